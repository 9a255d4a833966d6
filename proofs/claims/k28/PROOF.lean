import PyProof.Rows.All
import Wide.All
import OpenK.AllK
import Wide.FinOn
import PySem.Value
import HandS.ForMost
import HandS.Exc
import HandS.TryOnly
import HandS.CallSlots
import HandS.Star
import HandS.DictComp
import HandS.Evl
import KE.KSuper
import KE.KExcSuper
import HandS.ExcInit
import HandS.ExcIs
import HandS.ExcField
import HandS.Deep
import HandS.Sort
import HandS.SortInts
import HandS.Conv
import HandS.Style
import HandS.TupAny
import HandS.Flow
import HandS.ExcOwn
import HandS.IsInst
import KE.SortData
import KE.KRevIter
import HandS.Rev
import HandS.RevTup
import KE.GoesEnum
import HandS.Comp
import HandS.NoneIn
import HandS.Small
import HandS.Words
import HandS.WordsExc
import HandS.Head0
import HandS.Head1
import HandS.Head2
import HandS.HeadEnd
import HandS.HeadHook1
import HandS.HeadHook2
import PySem.Challenge.RW_keptlayers_k28_orders_between_and_ways
section
set_option linter.all false
/-! KL: a small evaluator over plain values. Own work. -/
namespace KL
open PySem

/-- plain values: trees, no heap -/
inductive PV where
  | non | bl (b : Bool) | int (i : Int) | str (s : Str)
  | lst (xs : List PV) | tup (xs : List PV)
  | dct (kvs : List (PV × PV))
  | obj (c : Nat) (fs : List PV)
  | scr (ns : List Int)
  deriving Inhabited
mutual
def PV.eqb : PV → PV → Bool
  | .non, .non => true
  | .bl a, .bl b => a == b
  | .int a, .int b => decide (a = b)
  | .str a, .str b => decide (a = b)
  | .lst a, .lst b => PV.eqbs a b
  | .tup a, .tup b => PV.eqbs a b
  | .dct a, .dct b => PV.eqbd a b
  | .obj c a, .obj d b => decide (c = d) && PV.eqbs a b
  | .scr a, .scr b => decide (a = b)
  | _, _ => false
def PV.eqbs : List PV → List PV → Bool
  | [], [] => true
  | a :: as, b :: bs => PV.eqb a b && PV.eqbs as bs
  | _, _ => false
def PV.eqbd : List (PV × PV) → List (PV × PV) → Bool
  | [], [] => true
  | (a, c) :: as, (b, d) :: bs => PV.eqb a b && PV.eqb c d && PV.eqbd as bs
  | _, _ => false
end
mutual
theorem PV.eqb_ok : ∀ {a b : PV}, PV.eqb a b = true → a = b
  | .non, b, h => by cases b <;> simp_all [PV.eqb]
  | .bl _, b, h => by cases b <;> simp_all [PV.eqb]
  | .int _, b, h => by cases b <;> simp_all [PV.eqb]
  | .str _, b, h => by cases b <;> simp_all [PV.eqb]
  | .lst as, b, h => by
    cases b with
    | lst bs => rw [PV.eqbs_ok (show PV.eqbs as bs = true by simpa [PV.eqb] using h)]
    | _ => simp [PV.eqb] at h
  | .tup as, b, h => by
    cases b with
    | tup bs => rw [PV.eqbs_ok (show PV.eqbs as bs = true by simpa [PV.eqb] using h)]
    | _ => simp [PV.eqb] at h
  | .dct as, b, h => by
    cases b with
    | dct bs => rw [PV.eqbd_ok (show PV.eqbd as bs = true by simpa [PV.eqb] using h)]
    | _ => simp [PV.eqb] at h
  | .obj c as, b, h => by
    cases b with
    | obj d bs =>
      simp only [PV.eqb, Bool.and_eq_true, decide_eq_true_eq] at h
      rw [h.1, PV.eqbs_ok h.2]
    | _ => simp [PV.eqb] at h
  | .scr _, b, h => by cases b <;> simp_all [PV.eqb]
theorem PV.eqbs_ok : ∀ {a b : List PV}, PV.eqbs a b = true → a = b
  | [], b, h => by cases b <;> simp_all [PV.eqbs]
  | a :: as, b, h => by
    cases b with
    | nil => simp [PV.eqbs] at h
    | cons b bs =>
      simp only [PV.eqbs, Bool.and_eq_true] at h
      rw [PV.eqb_ok h.1, PV.eqbs_ok h.2]
theorem PV.eqbd_ok : ∀ {a b : List (PV × PV)}, PV.eqbd a b = true → a = b
  | [], b, h => by cases b <;> simp_all [PV.eqbd]
  | (a, c) :: as, b, h => by
    cases b with
    | nil => simp [PV.eqbd] at h
    | cons b bs =>
      obtain ⟨b, d⟩ := b
      simp only [PV.eqbd, Bool.and_eq_true] at h
      rw [PV.eqb_ok h.1.1, PV.eqb_ok h.1.2, PV.eqbd_ok h.2]
end
mutual
theorem PV.eqb_refl : ∀ a : PV, PV.eqb a a = true
  | .non => by simp [PV.eqb]
  | .bl _ => by simp [PV.eqb]
  | .int _ => by simp [PV.eqb]
  | .str _ => by simp [PV.eqb]
  | .lst as => by simp [PV.eqb, PV.eqbs_refl as]
  | .tup as => by simp [PV.eqb, PV.eqbs_refl as]
  | .dct as => by simp [PV.eqb, PV.eqbd_refl as]
  | .obj _ as => by simp [PV.eqb, PV.eqbs_refl as]
  | .scr _ => by simp [PV.eqb]
theorem PV.eqbs_refl : ∀ a : List PV, PV.eqbs a a = true
  | [] => by simp [PV.eqbs]
  | a :: as => by simp [PV.eqbs, PV.eqb_refl a, PV.eqbs_refl as]
theorem PV.eqbd_refl : ∀ a : List (PV × PV), PV.eqbd a a = true
  | [] => by simp [PV.eqbd]
  | (a, b) :: as => by simp [PV.eqbd, PV.eqb_refl a, PV.eqb_refl b, PV.eqbd_refl as]
end
instance : DecidableEq PV := fun a b => if h : PV.eqb a b = true then .isTrue (PV.eqb_ok h) else .isFalse fun e => h (e ▸ PV.eqb_refl a)

def big : Nat := 16777216

/-- what a slot holds: nothing; a value that stands still; a list or dict of this frame's own (flat; with own lists within); one that was own, with its lists new since the entry -/
inductive SV where
  | un | shr (v : PV) | own (v : PV) | own2 (v : PV) | frz2 (v : PV)
  deriving DecidableEq, Inhabited
def SV.val : SV → PV
  | .un => .non | .shr v => v | .own v => v | .own2 v => v | .frz2 v => v
def SV.set? : SV → Bool
  | .un => false | _ => true
abbrev Rho := List SV

inductive Rr (α : Type) where
  | ok (a : α) (ρ : Rho) | exc (x : PV) (ρ : Rho) | bad
def Rr.bnd {α β : Type} (r : Rr α) (f : α → Rho → Rr β) : Rr β := match r with
  | .ok a ρ => f a ρ
  | .exc x ρ => .exc x ρ
  | .bad => .bad

/-- a call's end; bk: what the lent list has come to -/
inductive CR where
  | ok (v : SV) (bk : SV) | exc (x : PV) (bk : SV) | bad
/-- the defs: what a call gives; the parameter that is lent to be written -/
structure Gm where
  call : Nat → List SV → CR
  lent : Nat → Option Nat

/-! ### the text -/
inductive Bop where | add | sub | mul | mod | fdiv | pow
  deriving DecidableEq
inductive Cop where | eq | ne | lt | le | gt | ge | isin | notin
  deriving DecidableEq
inductive Tyk where | int | bool | str | list | tuple | dict
  deriving DecidableEq
inductive Bi where
  | len | sorted | list | tuple | abs | int | all | any | sum
  | listrng1 | listrng2 | listrev
  | isi (t : Tyk) | isc (c : Nat)
  deriving DecidableEq
inductive Mt where | index | get1 | get2
  deriving DecidableEq
inductive Tgt where | one (i : Nat) | many (is : List Nat)
  deriving DecidableEq

mutual
inductive Xp where
  | var (i : Nat)
  | cst (c : PV)
  | lst (deep : Bool) (es : Xps) | tup (es : Xps)
  | bop (o : Bop) (a b : Xp)
  | cmp (o : Cop) (a b : Xp)
  | isk (neg : Bool) (a : Xp) (c : PV)
  | band (es : Xps) | bor (es : Xps) | bnot (a : Xp)
  | ife (t a b : Xp)
  | idx (a i : Xp)
  | slc (a : Xp) (lo hi : Xpo)
  | call (lend : Bool) (f : Nat) (es : Xps)
  | blt (f : Bi) (es : Xps)
  | mth (m : Mt) (o : Xp) (es : Xps)
  | lcm (deep : Bool) (it : Wk) (tg : Tgt) (own : List Nat) (t : Xpo) (e : Xp)
  | lc2 (it : Wk) (tg : Tgt) (it2 : Wk) (tg2 : Tgt) (own : List Nat) (own2 : List Nat) (t : Xpo) (e : Xp)
  | dcm (it : Wk) (tg : Tgt) (own : List Nat) (k v : Xp)
  | xfld (a : Xp) (f : Nat)
inductive Xps where
  | nil | cons (e : Xp) (es : Xps) | star (e : Xp) (es : Xps)
inductive Xpo where
  | no | som (e : Xp)
inductive Wk where
  | seq (e : Xp) | rng1 (a : Xp) | rng2 (a b : Xp) | enm (a : Xp)
end

/-- what a handler's list holds: a text, the error's field, whether it is of a class -/
inductive Hit where | str (s : Str) | fld | isc (c : Nat)
  deriving DecidableEq
mutual
inductive Sx where
  | set (i : Nat) (e : Xp)
  | many (is : List Nat) (e : Xp)
  | setix (i : Nat) (k v : Xp)
  | app (deep : Bool) (i : Nat) (e : Xp)
  | exp (e : Xp)
  | ret (e : Xp) | retv (i : Nat) | retn
  | ife (t : Xp) (a b : Sxs)
  | for_ (it : Wk) (tg : Tgt) (b : Sxs)
  | whl (t : Xp) (b : Sxs)
  | brk | cnt | pas
  | rai (c : Nat) (e : Xp)
  | try_ (b : Sxs) (c : Nat) (i j : Nat) (hs : List Hit)
  | frz (i : Nat)
  | scrap (n : Nat) (i : Nat)
inductive Sxs where
  | nil | cons (s : Sx) (ss : Sxs)
end

/-! ### operations on plain values -/
mutual
/-- no bool meets an int -/
def cmpb : PV → PV → Bool
  | .bl _, .int _ => false
  | .int _, .bl _ => false
  | .lst xs, .lst ys => cmpbs xs ys
  | .tup xs, .tup ys => cmpbs xs ys
  | _, _ => true
def cmpbs : List PV → List PV → Bool
  | x :: xs, y :: ys => cmpb x y && cmpbs xs ys
  | [], _ => true
  | _ :: _, [] => true
end
mutual
/-- data (none, bools, ints, texts, lists, tuples), nested n deep at most -/
def dOk : Nat → PV → Bool
  | _, .non => true | _, .bl _ => true | _, .int _ => true | _, .str s => s.cps.all (· < 0x110000)
  | n + 1, .lst xs => dOks n xs
  | n + 1, .tup xs => dOks n xs
  | _, _ => false
def dOks : Nat → List PV → Bool
  | _, [] => true
  | n, x :: xs => dOk n x && dOks n xs
end
def eqPV (a b : PV) : Option Bool := if dOk 60 a && dOk 60 b && cmpb a b then some (decide (a = b)) else none

def truthP : PV → Option Bool
  | .non => some false
  | .bl b => some b
  | .int i => some (decide (i ≠ 0))
  | .lst xs => some (!xs.isEmpty)
  | .tup xs => some (!xs.isEmpty)
  | .dct xs => some (!xs.isEmpty)
  | _ => none

/-- xs[i] with a sign -/
def atP {α : Type} (xs : List α) (i : Int) : Option α :=
  if 0 ≤ i then xs[i.toNat]? else if 0 ≤ i + xs.length then xs[(i + xs.length).toNat]? else none
def slcB (n : Nat) (d : Int) : Option Int → Int
  | none => d
  | some i => if i < 0 then (if i + n < 0 then 0 else i + n) else (if i > n then n else i)
/-- xs[lo:hi] -/
def cutP {α : Type} (xs : List α) (lo hi : Option Int) : List α :=
  let a := slcB xs.length 0 lo
  let b := slcB xs.length xs.length hi
  (xs.drop a.toNat).take (b - a).toNat

def bopPV : Bop → PV → PV → Option SV
  | .add, .int i, .int j => some (.shr (.int (i + j)))
  | .add, .lst xs, .lst ys => if xs.length + ys.length ≤ big then some (.own (.lst (xs ++ ys))) else none
  | .sub, .int i, .int j => some (.shr (.int (i - j)))
  | .mul, .int i, .int j => if (-(2 ^ 64) < i ∧ i < 2 ^ 64) ∨ (-(2 ^ 64) < j ∧ j < 2 ^ 64) then some (.shr (.int (i * j))) else none
  | .mod, .int i, .int j => if 0 < j then some (.shr (.int (i % j))) else none
  | .fdiv, .int i, .int j => if 0 < j ∧ j < 1073741824 then some (.shr (.int (i / j))) else none
  | .pow, .int i, .int j => if 0 ≤ j ∧ j ≤ 1000000 ∧ i.natAbs < 2 ^ 64 then some (.shr (.int (i ^ j.toNat))) else none
  | _, _, _ => none

/-- is x among the items -/
def memPV (x : PV) (ys : List PV) : Option Bool := if dOk 59 x && dOks 59 ys && ys.all (fun y => cmpb y x) then some (decide (x ∈ ys)) else none
def lookPV (k : PV) : List (PV × PV) → Option PV
  | [] => none
  | (a, v) :: r => if a = k then some v else lookPV k r
def putPV (k v : PV) (kvs : List (PV × PV)) : List (PV × PV) :=
  if kvs.any (fun q => decide (q.1 = k)) then kvs.map (fun q => if q.1 = k then (q.1, v) else q) else kvs ++ [(k, v)]
/-- keys served -/
def keyPV : PV → Bool
  | .int _ => true
  | .str _ => true
  | _ => false

def cmpPV : Cop → PV → PV → Option Bool
  | .eq, a, b => eqPV a b
  | .ne, a, b => (eqPV a b).map (!·)
  | .lt, .int i, .int j => some (decide (i < j))
  | .le, .int i, .int j => some (decide (i ≤ j))
  | .gt, .int i, .int j => some (decide (j < i))
  | .ge, .int i, .int j => some (decide (j ≤ i))
  | .isin, x, .lst ys => memPV x ys
  | .isin, x, .tup ys => memPV x ys
  | .notin, x, .lst ys => (memPV x ys).map (!·)
  | .notin, x, .tup ys => (memPV x ys).map (!·)
  | _, _, _ => none

def idxPV : PV → PV → Option PV
  | .lst xs, .int i => atP xs i
  | .tup xs, .int i => atP xs i
  | .dct kvs, k => if keyPV k then lookPV k kvs else none
  | .scr ns, .int i => (atP ns i).map .int
  | _, _ => none

def slcPV (a : PV) (lo hi : Option Int) : Option SV := match a with
  | .lst xs => some (.own (.lst (cutP xs lo hi)))
  | .tup xs => some (.shr (.tup (cutP xs lo hi)))
  | _ => none

def allInt : List PV → Option (List Int)
  | [] => some []
  | .int i :: r => (allInt r).map (i :: ·)
  | _ :: _ => none
def allPair : List PV → Option (List (Int × Int))
  | [] => some []
  | .tup [.int i, .int j] :: r => (allPair r).map ((i, j) :: ·)
  | _ :: _ => none
def allBl : List PV → Option (List Bool)
  | [] => some []
  | .bl b :: r => (allBl r).map (b :: ·)
  | _ :: _ => none
def pairLe (a b : Int × Int) : Bool := decide (a.1 < b.1) || (decide (a.1 = b.1) && decide (a.2 ≤ b.2))
def sortPV (xs : List PV) : Option (List PV) :=
  match allInt xs with
  | some ns => some ((ns.mergeSort fun a b => decide (a ≤ b)).map .int)
  | none => match allPair xs with
    | some ps => some ((ps.mergeSort pairLe).map fun p => .tup [.int p.1, .int p.2])
    | none => none
def rngPV (lo : Int) (n : Nat) : List PV := (List.range n).map fun (k : Nat) => .int (lo + (k : Int))

def tyPV : Tyk → PV → Option Bool
  | .list, .lst _ => some true
  | .list, .tup _ => some false
  | .list, .int _ => some false
  | .list, .non => some false
  | .tuple, .tup _ => some true
  | .tuple, .lst _ => some false
  | .tuple, .int _ => some false
  | .bool, .bl _ => some true
  | .bool, .int _ => some false
  | _, _ => none

def idxP (y : PV) : List PV → Option Nat
  | [] => none
  | x :: xs => if x = y then some 0 else (idxP y xs).map (· + 1)
def posPV (y : PV) (xs : List PV) : Option Nat := if dOk 59 y && dOks 59 xs && xs.all (fun x => cmpb x y) then idxP y xs else none

def bltPV : Bi → List PV → Option SV
  | .len, [.lst xs] => some (.shr (.int xs.length))
  | .len, [.tup xs] => some (.shr (.int xs.length))
  | .len, [.scr xs] => some (.shr (.int xs.length))
  | .sorted, [.lst xs] => (sortPV xs).map fun ys => .own (.lst ys)
  | .sorted, [.tup xs] => (sortPV xs).map fun ys => .own (.lst ys)
  | .list, [.lst xs] => some (.own (.lst xs))
  | .list, [.tup xs] => some (.own (.lst xs))
  | .tuple, [.lst xs] => some (.shr (.tup xs))
  | .tuple, [.tup xs] => some (.shr (.tup xs))
  | .abs, [.int i] => some (.shr (.int (if i < 0 then -i else i)))
  | .int, [.int i] => some (.shr (.int i))
  | .all, [.lst xs] => (allBl xs).map fun bs => .shr (.bl (bs.all id))
  | .any, [.lst xs] => (allBl xs).map fun bs => .shr (.bl (bs.any id))
  | .listrng2, [.int i, .int j] => if -(2 ^ 62) ≤ i ∧ i < 2 ^ 62 ∧ -(2 ^ 62) ≤ j ∧ j < 2 ^ 62 ∧ (j - i).toNat ≤ big then some (.own (.lst (rngPV i (j - i).toNat))) else none
  | .listrev, [.lst xs] => some (.own (.lst xs.reverse))
  | .isi t, [x] => (tyPV t x).map fun b => .shr (.bl b)
  | .isc c, [.obj d _] => some (.shr (.bl (decide (d = c))))
  | _, _ => none
def mthPV : Mt → PV → List PV → Option SV
  | .index, .lst xs, [y] => (posPV y xs).map fun k => .shr (.int k)
  | _, _, _ => none

/-- the receiver's kind -/
def rcvOk (m : Mt) (v : Option PV) : Bool := match m, v with
  | .index, some (.lst _) => true
  | .get1, some (.dct _) => true
  | .get2, some (.dct _) => true
  | _, _ => false

/-! ### the run -/
/-- an operand: a slot's own object (read when the operation is done), or a value -/
inductive Opd where | ref (i : Nat) | imm (v : SV)
def Opd.get (ρ : Rho) : Opd → Option PV
  | .ref i => match ρ[i]? with
    | some (.shr v) => some v
    | some (.own v) => some v
    | some (.frz2 v) => some v
    | _ => none
  | .imm v => some v.val
def getAll (ρ : Rho) : List Opd → Option (List PV)
  | [] => some []
  | o :: r => match o.get ρ, getAll ρ r with
    | some v, some vs => some (v :: vs)
    | _, _ => none
def Rr.of {α : Type} (o : Option α) (ρ : Rho) : Rr α := match o with | some a => .ok a ρ | none => .bad

/-- the slot's value leaves the frame's own hands -/
def readV (i : Nat) (ρ : Rho) : Rr SV := match ρ[i]? with
  | some (.shr v) => .ok (.shr v) ρ
  | some (.frz2 v) => .ok (.shr v) ρ
  | some (.own v) => .ok (.shr v) (ρ.set i (.shr v))
  | some (.own2 v) => .ok (.shr v) (ρ.set i (.frz2 v))
  | _ => .bad
/-- the slot is looked at -/
def peekV (i : Nat) (ρ : Rho) : Rr Opd := match ρ[i]? with
  | some (.shr v) => .ok (.ref i) ρ
  | some (.frz2 v) => .ok (.ref i) ρ
  | some (.own v) => .ok (.ref i) ρ
  | some (.own2 v) => .ok (.ref i) (ρ.set i (.frz2 v))
  | _ => .bad
def wipeR (ρ : Rho) : List Nat → Rho
  | [] => ρ
  | v :: vs => (wipeR ρ vs).set v .un
/-- slots that hold nothing of their own -/
def notOwn (ρ : Rho) (vs : List Nat) : Bool := vs.all fun i => match ρ[i]? with
  | some (.own _) => false
  | some (.own2 _) => false
  | some (.frz2 _) => false
  | _ => true
/-- the slots vs as they stood -/
def backR (ρ0 ρ : Rho) : List Nat → Rho
  | [] => ρ
  | v :: vs => (backR ρ0 ρ vs).set v (ρ0[v]?.getD .un)
def bindMany : List Nat → List PV → Rho → Option Rho
  | [], [], ρ => some ρ
  | i :: is, v :: vs, ρ => bindMany is vs (ρ.set i (.shr v))
  | _, _, _ => none
def bindTg (tg : Tgt) (v : PV) (ρ : Rho) : Option Rho := match tg with
  | .one i => some (ρ.set i (.shr v))
  | .many is => match v with
    | .tup vs => bindMany is vs ρ
    | _ => none
def isOwnL : SV → Bool
  | .own (.lst _) => true
  | _ => false
def packL (deep : Bool) (vs : List SV) : Option SV :=
  if deep then (if vs.all isOwnL then some (.own2 (.lst (vs.map SV.val))) else none)
  else some (.own (.lst (vs.map SV.val)))
/-- a call's arguments as the callee takes them: that at m is lent to be written -/
def argsOf (ρ : Rho) (m : Option Nat) : Nat → List Opd → Option (List SV)
  | _, [] => some []
  | j, .ref i :: r => match ρ[i]?, argsOf ρ m (j + 1) r with
    | some (.own v), some vs => if m = some j then some (.own v :: vs) else none
    | _, _ => none
  | j, .imm v :: r => match argsOf ρ m (j + 1) r with
    | some vs => if m = some j then (match v with | .own w => some (.own w :: vs) | _ => none) else some (.shr v.val :: vs)
    | none => none
/-- the slot that takes back what was lent -/
def refOf (m : Option Nat) : Nat → List Opd → Option Nat
  | _, [] => none
  | j, .ref i :: r => if m = some j then some i else refOf m (j + 1) r
  | j, .imm _ :: r => refOf m (j + 1) r
def setBk (r : Option Nat) (v : SV) (ρ : Rho) : Rho := match r with
  | some i => ρ.set i v
  | none => ρ
def scalar : PV → Bool
  | .non => true | .bl _ => true | .int _ => true | .str _ => true
  | _ => false

/-- the slot whose own list is walked: hidden meanwhile -/
def hidO (ρ : Rho) : Opd → List Nat
  | .ref i => (match ρ[i]? with | some (.own _) => [i] | _ => [])
  | .imm _ => []
def tgSlots : Tgt → List Nat
  | .one i => [i]
  | .many is => is
def apart (xs ys : List Nat) : Bool := xs.all fun x => !ys.contains x
/-- the turns of a comprehension -/
def lcL (tg : Tgt) (own : List Nat) (body : Rho → Rr (Option SV)) : List PV → Rho → Rr (List SV)
  | [], ρ => .ok [] ρ
  | x :: xs, ρ => match bindTg tg x ρ with
    | none => .bad
    | some ρ1 => match body ρ1 with
      | .ok o ρ2 => match lcL tg own body xs (wipeR ρ2 own) with
        | .ok r ρ3 => (match o with | some v => .ok (v :: r) ρ3 | none => .ok r ρ3)
        | _ => .bad
      | _ => .bad
def lcL2 (tg : Tgt) (own own2 : List Nat) (inner : Rho → Rr (List PV)) (tg2 : Tgt) (body : Rho → Rr (Option SV)) : List PV → Rho → Rr (List SV)
  | [], ρ => .ok [] ρ
  | x :: xs, ρ => match bindTg tg x ρ with
    | none => .bad
    | some ρ1 => match inner ρ1 with
      | .ok ys ρ2 => match lcL tg2 own2 body ys (wipeR ρ2 own2) with
        | .ok r1 ρ3 => match lcL2 tg own own2 inner tg2 body xs (wipeR ρ3 own) with
          | .ok r2 ρ4 => .ok (r1 ++ r2) ρ4
          | _ => .bad
        | _ => .bad
      | _ => .bad
def dcL (tg : Tgt) (own : List Nat) (body : Rho → Rr (PV × PV)) : List PV → List (PV × PV) → Rho → Rr (List (PV × PV))
  | [], acc, ρ => .ok acc ρ
  | x :: xs, acc, ρ => match bindTg tg x ρ with
    | none => .bad
    | some ρ1 => match body ρ1 with
      | .ok (k, v) ρ2 => if keyPV k then dcL tg own body xs (putPV k v acc) (wipeR ρ2 own) else .bad
      | _ => .bad
def enumPV : Nat → List PV → List PV
  | _, [] => []
  | k, x :: xs => .tup [.int k, x] :: enumPV (k + 1) xs


/-- how an expression is asked: for its value, for an operand, for its truth -/
inductive Md where | val | opd | tst
  deriving DecidableEq
def Opd.sv : Opd → SV
  | .imm v => v
  | .ref _ => .un
def Opd.tru : Opd → Bool
  | .imm (.shr (.bl b)) => b
  | _ => false
def finM (m : Md) (r : Rr SV) : Rr Opd := r.bnd fun v ρ => match m with
  | .tst => Rr.of ((truthP v.val).map fun b => .imm (.shr (.bl b))) ρ
  | _ => .ok (.imm v) ρ
/-- a name, as it is asked -/
def askV (m : Md) (i : Nat) (ρ : Rho) : Rr Opd := match m with
  | .val => (readV i ρ).bnd fun v ρ => .ok (.imm v) ρ
  | .opd => peekV i ρ
  | .tst => (peekV i ρ).bnd fun o ρ => match o.get ρ with
    | some v => Rr.of ((truthP v).map fun b => .imm (.shr (.bl b))) ρ
    | none => .bad

section
variable (g : Gm)
mutual
def evalE : Md → Xp → Rho → Rr Opd
  | m, .var i, ρ => askV m i ρ
  | m, .cst c, ρ => finM m (if scalar c then .ok (.shr c) ρ else .bad)
  | m, .lst d es, ρ => finM m ((evalEs es ρ).bnd fun vs ρ => if vs.length ≤ big then Rr.of (packL d vs) ρ else .bad)
  | m, .tup es, ρ => finM m ((evalEs es ρ).bnd fun vs ρ => if vs.length ≤ big then .ok (.shr (.tup (vs.map SV.val))) ρ else .bad)
  | m, .bop o a b, ρ => finM m ((evalE .opd a ρ).bnd fun x ρ => (evalE .opd b ρ).bnd fun y ρ => match x.get ρ, y.get ρ with
    | some x, some y => Rr.of (bopPV o x y) ρ
    | _, _ => .bad)
  | m, .cmp o a b, ρ => finM m ((evalE .opd a ρ).bnd fun x ρ => (evalE .opd b ρ).bnd fun y ρ => match x.get ρ, y.get ρ with
    | some x, some y => Rr.of ((cmpPV o x y).map fun r => .shr (.bl r)) ρ
    | _, _ => .bad)
  | m, .isk n a c, ρ => finM m ((evalE .opd a ρ).bnd fun x ρ => match x.get ρ with
    | some x => .ok (.shr (.bl (if n then !decide (x = c) else decide (x = c)))) ρ
    | none => .bad)
  | .tst, .band es, ρ => evalAnd .tst es ρ
  | m, .band es, ρ => evalAnd .val es ρ
  | .tst, .bor es, ρ => evalOr .tst es ρ
  | m, .bor es, ρ => evalOr .val es ρ
  | .tst, .bnot a, ρ => (evalE .tst a ρ).bnd fun b ρ => .ok (.imm (.shr (.bl (!b.tru)))) ρ
  | m, .bnot a, ρ => finM m (((evalE .opd a ρ).bnd fun o ρ => match o.get ρ with
    | some v => Rr.of ((truthP v).map fun b => Opd.imm (.shr (.bl b))) ρ
    | none => .bad).bnd fun b ρ => .ok (.shr (.bl (!b.tru))) ρ)
  | m, .ife t a b, ρ => (evalE .tst t ρ).bnd fun c ρ => if c.tru then finM m ((evalE .val a ρ).bnd fun o ρ => .ok o.sv ρ) else finM m ((evalE .val b ρ).bnd fun o ρ => .ok o.sv ρ)
  | m, .idx a i, ρ => finM m ((evalE .opd a ρ).bnd fun x ρ => (evalE .opd i ρ).bnd fun y ρ => match x.get ρ, y.get ρ with
    | some x, some y => Rr.of ((idxPV x y).map .shr) ρ
    | _, _ => .bad)
  | m, .slc a lo hi, ρ => finM m ((evalE .opd a ρ).bnd fun x ρ => (evalOe lo ρ).bnd fun l ρ => (evalOe hi ρ).bnd fun h ρ => match x.get ρ with
    | some x => Rr.of (slcPV x l h) ρ
    | none => .bad)
  | m, .call lend f es, ρ => finM m ((evalAs (g.lent f) 0 es ρ).bnd fun os ρ => match argsOf ρ (g.lent f) 0 os with
    | some vs => (match g.call f vs with
      | .ok v bk => .ok v (setBk (refOf (g.lent f) 0 os) bk ρ)
      | .exc x bk => .exc x (setBk (refOf (g.lent f) 0 os) bk ρ)
      | .bad => .bad)
    | none => .bad)
  | m, .blt f es, ρ => finM m ((evalOs es ρ).bnd fun os ρ => match getAll ρ os with
    | some vs => Rr.of (bltPV f vs) ρ
    | none => .bad)
  | m, .mth k o es, ρ => finM m ((evalE .opd o ρ).bnd fun x ρ => if rcvOk k (x.get ρ) then (evalOs es ρ).bnd fun os ρ => (match x.get ρ, getAll ρ os with
    | some x, some vs => Rr.of (mthPV k x vs) ρ
    | _, _ => .bad) else .bad)
  | m, .lcm d it tg own t e, ρ => finM m ((evalIt it ρ).bnd fun xs ρ =>
      if notOwn ρ own && apart own xs.2 && decide (xs.1.length ≤ big) then
        match lcL tg own (fun ρ => (evalTe t ρ).bnd fun b ρ => if b then (evalE .val e ρ).bnd fun v ρ => .ok (some v.sv) ρ else .ok none ρ) xs.1 (wipeR ρ (xs.2 ++ own)) with
        | .ok vs ρ' => Rr.of (packL d vs) (backR ρ ρ' (xs.2 ++ own))
        | _ => .bad
      else .bad)
  | m, .lc2 it tg it2 tg2 own own2 t e, ρ => finM m ((evalIt it ρ).bnd fun xs ρ =>
      if notOwn ρ own && apart own xs.2 then
        match lcL2 tg own own2 (fun ρ => (evalIt it2 ρ).bnd fun p ρ => if p.2.isEmpty then .ok p.1 ρ else .bad) tg2 (fun ρ => (evalTe t ρ).bnd fun b ρ => if b then (evalE .val e ρ).bnd fun v ρ => .ok (some v.sv) ρ else .ok none ρ) xs.1 (wipeR ρ (xs.2 ++ own)) with
        | .ok vs ρ' => if vs.length ≤ big then Rr.of (packL false vs) (backR ρ ρ' (xs.2 ++ own)) else .bad
        | _ => .bad
      else .bad)
  | m, .dcm it tg own k v, ρ => finM m ((evalIt it ρ).bnd fun xs ρ =>
      if notOwn ρ own && apart own xs.2 && decide (xs.1.length ≤ big) then
        match dcL tg own (fun ρ => (evalE .val k ρ).bnd fun a ρ => (evalE .val v ρ).bnd fun b ρ => .ok (a.sv.val, b.sv.val) ρ) xs.1 [] (wipeR ρ (xs.2 ++ own)) with
        | .ok kvs ρ' => .ok (.own (.dct kvs)) (backR ρ ρ' (xs.2 ++ own))
        | _ => .bad
      else .bad)
  | m, .xfld a f, ρ => finM m ((evalE .opd a ρ).bnd fun x ρ => match x.get ρ with
    | some (.obj c fs) => (match fs[f]? with | some v => .ok (.shr v) ρ | none => .bad)
    | _ => .bad)
def evalTe : Xpo → Rho → Rr Bool
  | .no, ρ => .ok true ρ
  | .som e, ρ => (evalE .tst e ρ).bnd fun o ρ => .ok o.tru ρ
def evalOe : Xpo → Rho → Rr (Option Int)
  | .no, ρ => .ok none ρ
  | .som e, ρ => (evalE .opd e ρ).bnd fun x ρ => match x.get ρ with
    | some (.int i) => .ok (some i) ρ
    | _ => .bad
def evalAnd : Md → Xps → Rho → Rr Opd
  | m, .cons e .nil, ρ => evalE m e ρ
  | .tst, .cons e es, ρ => (evalE .tst e ρ).bnd fun b ρ => if b.tru then evalAnd .tst es ρ else .ok (.imm (.shr (.bl false))) ρ
  | m, .cons e es, ρ => (evalE .val e ρ).bnd fun v ρ => match v.sv.val with
    | .bl true => evalAnd m es ρ
    | .bl false => .ok (.imm (.shr (.bl false))) ρ
    | _ => .bad
  | _, _, _ => .bad
def evalOr : Md → Xps → Rho → Rr Opd
  | m, .cons e .nil, ρ => evalE m e ρ
  | .tst, .cons e es, ρ => (evalE .tst e ρ).bnd fun b ρ => if b.tru then .ok (.imm (.shr (.bl true))) ρ else evalOr .tst es ρ
  | m, .cons e es, ρ => (evalE .val e ρ).bnd fun v ρ => match v.sv.val with
    | .bl false => evalOr m es ρ
    | .bl true => .ok (.imm (.shr (.bl true))) ρ
    | _ => .bad
  | _, _, _ => .bad
/-- items of a display -/
def evalEs : Xps → Rho → Rr (List SV)
  | .nil, ρ => .ok [] ρ
  | .cons e es, ρ => (evalE .val e ρ).bnd fun v ρ => (evalEs es ρ).bnd fun vs ρ => .ok (v.sv :: vs) ρ
  | .star e es, ρ => (evalE .opd e ρ).bnd fun x ρ => match x.get ρ with
    | some (.lst xs) => (evalEs es ρ).bnd fun vs ρ => .ok (xs.map .shr ++ vs) ρ
    | some (.tup xs) => (evalEs es ρ).bnd fun vs ρ => .ok (xs.map .shr ++ vs) ρ
    | _ => .bad
/-- a call's arguments: those at ms are a name's own list, lent out to be written -/
def evalAs (m : Option Nat) : Nat → Xps → Rho → Rr (List Opd)
  | _, .nil, ρ => .ok [] ρ
  | j, .cons e es, ρ => (if m = some j then (match e with
      | .var i => (match ρ[i]? with | some (.own _) => .ok (.ref i) ρ | _ => .bad)
      | e => evalE .val e ρ)
      else evalE .val e ρ).bnd fun o ρ => (evalAs m (j + 1) es ρ).bnd fun os ρ => .ok (o :: os) ρ
  | _, .star _ _, _ => .bad
def evalOs : Xps → Rho → Rr (List Opd)
  | .nil, ρ => .ok [] ρ
  | .cons e es, ρ => (evalE .opd e ρ).bnd fun v ρ => (evalOs es ρ).bnd fun vs ρ => .ok (v :: vs) ρ
  | .star _ _, _ => .bad
def evalIt : Wk → Rho → Rr (List PV × List Nat)
  | .seq e, ρ => (evalE .opd e ρ).bnd fun v ρ => match v.get ρ with
    | some (.lst xs) => .ok (xs, hidO ρ v) ρ
    | some (.tup xs) => .ok (xs, []) ρ
    | _ => .bad
  | .rng1 a, ρ => (evalE .opd a ρ).bnd fun x ρ => match x.get ρ with
    | some (.int j) => if -(2 ^ 62) ≤ j ∧ j < 2 ^ 62 then .ok (rngPV 0 j.toNat, []) ρ else .bad
    | _ => .bad
  | .rng2 a b, ρ => (evalE .opd a ρ).bnd fun x ρ => (evalE .opd b ρ).bnd fun y ρ => match x.get ρ, y.get ρ with
    | some (.int i), some (.int j) => if -(2 ^ 62) ≤ i ∧ i < 2 ^ 62 ∧ -(2 ^ 62) ≤ j ∧ j < 2 ^ 62 then .ok (rngPV i (j - i).toNat, []) ρ else .bad
    | _, _ => .bad
  | .enm e, ρ => (evalE .opd e ρ).bnd fun v ρ => match v.get ρ with
    | some (.lst xs) => .ok (enumPV 0 xs, hidO ρ v) ρ
    | some (.tup xs) => .ok (enumPV 0 xs, []) ρ
    | _ => .bad
end

/-! ### statements -/
inductive Outc where
  | nx (ρ : Rho) | rt (v : SV) (ρ : Rho) | bk (ρ : Rho) | ct (ρ : Rho) | ex (x : PV) (ρ : Rho) | bad
def Rr.out {α : Type} (r : Rr α) (f : α → Rho → Outc) : Outc := match r with
  | .ok a ρ => f a ρ
  | .exc x ρ => .ex x ρ
  | .bad => .bad
def Outc.seq (o : Outc) (f : Rho → Outc) : Outc := match o with
  | .nx ρ => f ρ
  | o => o
def forL (tg : Tgt) (body : Rho → Outc) : List PV → Rho → Outc
  | [], ρ => .nx ρ
  | x :: xs, ρ => match bindTg tg x ρ with
    | none => .bad
    | some ρ1 => match body ρ1 with
      | .nx ρ2 => forL tg body xs ρ2
      | .ct ρ2 => forL tg body xs ρ2
      | .bk ρ2 => .nx ρ2
      | o => o
def whlN (test : Rho → Rr Bool) (body : Rho → Outc) : Nat → Rho → Outc
  | 0, _ => .bad
  | n + 1, ρ => (test ρ).out fun b ρ => if b then (match body ρ with
      | .nx ρ2 => whlN test body n ρ2
      | .ct ρ2 => whlN test body n ρ2
      | .bk ρ2 => .nx ρ2
      | o => o) else .nx ρ
def Outc.bak (ρ0 : Rho) (vs : List Nat) : Outc → Outc
  | .nx ρ => .nx (KL.backR ρ0 ρ vs)
  | .rt v ρ => .rt v (KL.backR ρ0 ρ vs)
  | .bk ρ => .bk (KL.backR ρ0 ρ vs)
  | .ct ρ => .ct (KL.backR ρ0 ρ vs)
  | .ex x ρ => .ex x (KL.backR ρ0 ρ vs)
  | .bad => .bad
def fuel : Nat := 10000
def setOwn (f : PV → Option PV) (i : Nat) (ρ : Rho) : Outc := match ρ[i]? with
  | some (.own v) => (match f v with | some w => .nx (ρ.set i (.own w)) | none => .bad)
  | _ => .bad
def setIx (k v : PV) : PV → Option PV
  | .lst xs => (match k with
    | .int i => if 0 ≤ i ∧ i < xs.length then some (.lst (xs.set i.toNat v)) else none
    | _ => none)
  | .dct kvs => if keyPV k && decide (kvs.length < big) then some (.dct (putPV k v kvs)) else none
  | _ => none
/-- a slot that a name is bound to anew (a parameter that is lent stays) -/
def setSlot (pr : List Nat) (i : Nat) (v : SV) (ρ : Rho) : Outc := if pr.contains i then .bad else .nx (ρ.set i v)
def appO (d : Bool) (i : Nat) (v : SV) (ρ : Rho) : Outc := match d with
  | false => (match ρ[i]? with
    | some (.own (.lst xs)) => if xs.length < big then .nx (ρ.set i (.own (.lst (xs ++ [v.val])))) else .bad
    | _ => .bad)
  | true => (match ρ[i]? with
    | some (.own2 (.lst xs)) => if xs.length < big && isOwnL v then .nx (ρ.set i (.own2 (.lst (xs ++ [v.val])))) else .bad
    | _ => .bad)
def isOwnAt (ρ : Rho) (i : Nat) : Bool := match ρ[i]? with
  | some (.own _) => true
  | _ => false
def isLstAt (ρ : Rho) (i : Nat) : Bool := match ρ[i]? with
  | some (.own (.lst _)) => true
  | some (.own2 (.lst _)) => true
  | _ => false
def isShr : SV → Bool
  | .shr _ => true
  | _ => false
def unAll : Nat → Rho → Rho
  | n, ρ => ρ.take n ++ (ρ.drop n).map fun _ => .un

def hitV (d : Nat) (v : PV) : Hit → PV
  | .str s => .str s
  | .fld => v
  | .isc c => .bl (decide (c = d))
/-- except C as i: j = [..] -/
def tryEnd (pr : List Nat) (c i j : Nat) (hs : List Hit) (p : PV) (ρ : Rho) : Outc := match p with
  | .obj d [v] => if c = d ∧ i < ρ.length ∧ i ≠ j ∧ pr.contains i = false ∧ pr.contains j = false then .nx ((ρ.set j (.own (.lst (hs.map (hitV d v))))).set i .un) else .bad
  | _ => .bad
mutual
def execS (pr : List Nat) (ρ0 : Rho) : Sx → Rho → Outc
  | .set i e, ρ => (evalE g .val e ρ).out fun o ρ => setSlot pr i o.sv ρ
  | .many is e, ρ => (evalE g .val e ρ).out fun o ρ => if is.all (fun i => !pr.contains i) then (match o.sv.val with
      | .tup vs => (match bindMany is vs ρ with | some ρ => .nx ρ | none => .bad)
      | .lst vs => (match bindMany is vs ρ with | some ρ => .nx ρ | none => .bad)
      | _ => .bad) else .bad
  | .setix i k e, ρ => (evalE g .val e ρ).out fun v ρ => if isOwnAt ρ i then (evalE g .val k ρ).out fun k ρ => setOwn (setIx k.sv.val v.sv.val) i ρ else .bad
  | .app d i e, ρ => if isLstAt ρ i then (evalE g .val e ρ).out fun v ρ => appO d i v.sv ρ else .bad
  | .exp e, ρ => (evalE g .val e ρ).out fun _ ρ => .nx ρ
  | .ret e, ρ => (evalE g .val e ρ).out fun o ρ => .rt o.sv ρ
  | .retv i, ρ => if pr.contains i then .bad else match ρ[i]? with
    | some (.shr v) => .rt (.shr v) ρ
    | some (.frz2 v) => .rt (.shr v) ρ
    | some (.own v) => .rt (.own v) (ρ.set i .un)
    | some (.own2 v) => .rt (.own2 v) (ρ.set i .un)
    | _ => .bad
  | .retn, ρ => .rt (.shr .non) ρ
  | .ife t a b, ρ => (evalE g .tst t ρ).out fun c ρ => if c.tru then execSs pr ρ0 a ρ else execSs pr ρ0 b ρ
  | .for_ it tg b, ρ => (evalIt g it ρ).out fun xs ρ =>
      if apart (tgSlots tg) (xs.2 ++ pr) then (forL tg (fun ρ' => execSs (xs.2 ++ pr) ρ0 b ρ') xs.1 (wipeR ρ xs.2)).bak ρ xs.2 else .bad
  | .whl t b, ρ => whlN (fun ρ => (evalE g .tst t ρ).bnd fun o ρ => .ok o.tru ρ) (fun ρ => execSs pr ρ0 b ρ) fuel ρ
  | .brk, ρ => .bk ρ
  | .cnt, ρ => .ct ρ
  | .pas, ρ => .nx ρ
  | .rai c e, ρ => (evalE g .val e ρ).out fun v ρ => .ex (.obj c [v.sv.val]) ρ
  | .try_ b c i j hs, ρ => match execSs pr ρ0 b ρ with
    | .ex p ρ => tryEnd pr c i j hs p ρ
    | o => o
  | .frz i, ρ => (readV i ρ).out fun _ ρ => .nx ρ
  | .scrap n i, ρ => match ρ[i]? with
    | some (.frz2 (.lst (.lst xs :: _))) => if xs.length < big && decide (ρ.take n = ρ0.take n) && (ρ.take n).all isShr && (List.range n).all (fun j => pr.contains j) then .nx (unAll n ρ) else .bad
    | _ => .bad
def execSs (pr : List Nat) (ρ0 : Rho) : Sxs → Rho → Outc
  | .nil, ρ => .nx ρ
  | .cons s ss, ρ => (execS pr ρ0 s ρ).seq fun ρ => execSs pr ρ0 ss ρ
end
end

/-- one def: parameters, slots, the parameter that it writes, its text -/
structure Df where
  pars : Nat
  slots : Nat
  lent : Option Nat
  body : Sxs
  prot : List Nat := []
def muOk : Option Nat → Nat → List SV → Bool
  | _, _, [] => true
  | m, j, .own _ :: vs => decide (m = some j) && muOk m (j + 1) vs
  | m, j, .shr _ :: vs => !decide (m = some j) && muOk m (j + 1) vs
  | _, _, _ => false
def backOf (m : Option Nat) (ρ : Rho) : SV := match m with
  | some i => (match ρ[i]? with
    | some (.own v) => .own v
    | some (.shr v) => .shr v
    | _ => .un)
  | none => .un
def runD (g : Gm) (d : Df) (vs : List SV) : CR :=
  if vs.length == d.pars && muOk d.lent 0 vs then
    let ρ := vs ++ List.replicate (d.slots - d.pars) .un
    match execSs g (d.lent.toList ++ d.prot) ρ d.body ρ with
    | .nx ρ => .ok (.shr .non) (backOf d.lent ρ)
    | .rt v ρ => .ok v (backOf d.lent ρ)
    | .ex x ρ => .exc x (backOf d.lent ρ)
    | _ => .bad
  else .bad
/-- the program's defs, called to a depth -/
def gN (T : List Df) : Nat → Gm
  | 0 => ⟨fun _ _ => .bad, fun f => match T[f]? with | some d => d.lent | none => none⟩
  | k + 1 => ⟨fun f vs => match T[f]? with | some d => runD (gN T k) d vs | none => .bad, fun f => match T[f]? with | some d => d.lent | none => none⟩
end KL
end
section
set_option Elab.async false
set_option linter.all false
set_option maxRecDepth 100000
/-! KA1: plain values told by the abstract heap; frames' slots. -/
namespace KL
open PySem PySem.Spec PyProof.Rows L2
open Evl (Ex)

def keyOf : PV → Option Key
  | .int i => some (.inl i)
  | .str s => some (.inr s)
  | _ => none
variable (K : PySem.W.Frag)
mutual
/-- x stands for the plain value, by what stands still in F -/
def Rep (F : Hp) : PV → V → Prop
  | .non, x => x = .non
  | .bl b, x => x = .bl b
  | .int i, x => x = .int i
  | .str s, x => x = .str s
  | .lst xs, x => ∃ a vs, x = .ref a ∧ F a = some (.lst vs) ∧ Reps F xs vs
  | .tup xs, x => ∃ a vs, x = .ref a ∧ SqT K F a vs ∧ Reps F xs vs
  | .dct kvs, x => ∃ a ks, x = .ref a ∧ F a = some (.dK ks) ∧ RepD F kvs ks
  | .obj _ _, _ => False
  | .scr ns, x => ∃ a, x = .ref a ∧ SqL K F a (ns.map V.int)
def Reps (F : Hp) : List PV → List V → Prop
  | [], vs => vs = []
  | p :: ps, vs => ∃ v r, vs = v :: r ∧ Rep F p v ∧ Reps F ps r
def RepD (F : Hp) : List (PV × PV) → List (Key × V) → Prop
  | [], ks => ks = []
  | (k, p) :: ps, ks => ∃ k' v r, ks = (k', v) :: r ∧ keyOf k = some k' ∧ Rep F p v ∧ RepD F ps r
end
section
variable {K} {F F' H H' : Hp}
mutual
theorem Rep.mono (e : Ex F F') : ∀ {p : PV} {x : V}, Rep K F p x → Rep K F' p x
  | .non, x, h => by simpa [Rep] using h
  | .bl _, x, h => by simpa [Rep] using h
  | .int _, x, h => by simpa [Rep] using h
  | .str _, x, h => by simpa [Rep] using h
  | .lst xs, x, h => by
    simp only [Rep] at h ⊢
    obtain ⟨a, vs, e1, h1, h2⟩ := h
    exact ⟨a, vs, e1, e _ _ h1, Reps.mono e h2⟩
  | .tup xs, x, h => by
    simp only [Rep] at h ⊢
    obtain ⟨a, vs, e1, h1, h2⟩ := h
    exact ⟨a, vs, e1, Evl.ex_t e h1, Reps.mono e h2⟩
  | .dct xs, x, h => by
    simp only [Rep] at h ⊢
    obtain ⟨a, vs, e1, h1, h2⟩ := h
    exact ⟨a, vs, e1, e _ _ h1, RepD.mono e h2⟩
  | .obj _ _, x, h => by simp only [Rep] at h
  | .scr ns, x, h => by
    simp only [Rep] at h ⊢
    obtain ⟨a, e1, h1⟩ := h
    exact ⟨a, e1, Evl.ex_l e h1⟩
theorem Reps.mono (e : Ex F F') : ∀ {ps : List PV} {xs : List V}, Reps K F ps xs → Reps K F' ps xs
  | [], xs, h => by simpa [Reps] using h
  | p :: ps, xs, h => by
    simp only [Reps] at h ⊢
    obtain ⟨v, r, e1, h1, h2⟩ := h
    exact ⟨v, r, e1, Rep.mono e h1, Reps.mono e h2⟩
theorem RepD.mono (e : Ex F F') : ∀ {ps : List (PV × PV)} {xs : List (Key × V)}, RepD K F ps xs → RepD K F' ps xs
  | [], xs, h => by simpa [RepD] using h
  | (k, p) :: ps, xs, h => by
    simp only [RepD] at h ⊢
    obtain ⟨k', v, r, e1, e2, h1, h2⟩ := h
    exact ⟨k', v, r, e1, e2, Rep.mono e h1, RepD.mono e h2⟩
end
theorem reps_iff : ∀ {ps : List PV} {xs : List V}, Reps K F ps xs ↔ Paired (Rep K F) ps xs
  | [], xs => by
    constructor
    · intro h; simp only [Reps] at h; subst h; exact .nil
    · intro h; cases h; simp [Reps]
  | p :: ps, xs => by
    constructor
    · intro h
      simp only [Reps] at h
      obtain ⟨v, r, rfl, h1, h2⟩ := h
      exact .cons h1 (reps_iff.mp h2)
    · intro h
      cases h with
      | cons a b => simp only [Reps]; exact ⟨_, _, rfl, a, reps_iff.mpr b⟩
theorem Reps.len {ps : List PV} {xs : List V} (h : Reps K F ps xs) : ps.length = xs.length := (reps_iff.mp h).length
theorem Reps.get : ∀ {ps : List PV} {xs : List V} {i : Nat} {p : PV}, Reps K F ps xs → ps[i]? = some p → ∃ x, xs[i]? = some x ∧ Rep K F p x
  | [], _, _, _, _, e => by simp at e
  | q :: ps, xs, 0, p, h, e => by
    simp only [Reps] at h
    obtain ⟨v, r, rfl, h1, h2⟩ := h
    simp at e; subst e
    exact ⟨v, rfl, h1⟩
  | q :: ps, xs, i + 1, p, h, e => by
    simp only [Reps] at h
    obtain ⟨v, r, rfl, h1, h2⟩ := h
    obtain ⟨x, a, b⟩ := Reps.get h2 (by simpa using e)
    exact ⟨x, by simpa using a, b⟩
theorem Reps.getV : ∀ {ps : List PV} {xs : List V} {i : Nat} {x : V}, Reps K F ps xs → xs[i]? = some x → ∃ p, ps[i]? = some p ∧ Rep K F p x
  | [], xs, _, _, h, e => by
    simp only [Reps] at h; subst h; simp at e
  | q :: ps, xs, 0, x, h, e => by
    simp only [Reps] at h
    obtain ⟨v, r, rfl, h1, h2⟩ := h
    simp at e; subst e
    exact ⟨q, rfl, h1⟩
  | q :: ps, xs, i + 1, x, h, e => by
    simp only [Reps] at h
    obtain ⟨v, r, rfl, h1, h2⟩ := h
    obtain ⟨p, a, b⟩ := Reps.getV h2 (by simpa using e)
    exact ⟨p, by simpa using a, b⟩
theorem Reps.nil : Reps K F [] [] := by simp [Reps]
theorem Reps.cons {p : PV} {x : V} {ps : List PV} {xs : List V} (h : Rep K F p x) (t : Reps K F ps xs) : Reps K F (p :: ps) (x :: xs) := by
  simp only [Reps]; exact ⟨x, xs, rfl, h, t⟩
theorem Reps.append : ∀ {ps qs : List PV} {xs ys : List V}, Reps K F ps xs → Reps K F qs ys → Reps K F (ps ++ qs) (xs ++ ys)
  | [], _, xs, _, h, t => by simp only [Reps] at h; subst h; exact t
  | p :: ps, _, xs, _, h, t => by
    simp only [Reps] at h
    obtain ⟨v, r, rfl, h1, h2⟩ := h
    exact .cons h1 (Reps.append h2 t)
theorem Reps.take : ∀ {ps : List PV} {xs : List V} (n : Nat), Reps K F ps xs → Reps K F (ps.take n) (xs.take n)
  | ps, xs, 0, _ => by simpa using Reps.nil
  | [], xs, n + 1, h => by simp only [Reps] at h; subst h; simpa using Reps.nil
  | p :: ps, xs, n + 1, h => by
    simp only [Reps] at h
    obtain ⟨v, r, rfl, h1, h2⟩ := h
    simp only [List.take_succ_cons]
    exact .cons h1 (Reps.take n h2)
theorem Reps.drop : ∀ {ps : List PV} {xs : List V} (n : Nat), Reps K F ps xs → Reps K F (ps.drop n) (xs.drop n)
  | ps, xs, 0, h => by simpa using h
  | [], xs, n + 1, h => by simp only [Reps] at h; subst h; simpa using Reps.nil
  | p :: ps, xs, n + 1, h => by
    simp only [Reps] at h
    obtain ⟨v, r, rfl, h1, h2⟩ := h
    simp only [List.drop_succ_cons]
    exact Reps.drop n h2
theorem Reps.set {p : PV} {x : V} (hp : Rep K F p x) : ∀ {ps : List PV} {xs : List V} (n : Nat), Reps K F ps xs → Reps K F (ps.set n p) (xs.set n x)
  | [], xs, n, h => by simp only [Reps] at h; subst h; simpa using Reps.nil
  | q :: ps, xs, 0, h => by
    simp only [Reps] at h
    obtain ⟨v, r, rfl, h1, h2⟩ := h
    exact .cons hp h2
  | q :: ps, xs, n + 1, h => by
    simp only [Reps] at h
    obtain ⟨v, r, rfl, h1, h2⟩ := h
    exact .cons h1 (Reps.set hp n h2)
theorem Reps.rev {ps : List PV} {xs : List V} (h : Reps K F ps xs) : Reps K F ps.reverse xs.reverse := by
  induction ps generalizing xs with
  | nil => simp only [Reps] at h; subst h; simpa using Reps.nil
  | cons p ps ih =>
    simp only [Reps] at h
    obtain ⟨v, r, rfl, h1, h2⟩ := h
    simp only [List.reverse_cons]
    exact (ih h2).append (.cons h1 .nil)
theorem Reps.ints : ∀ {ns : List Int} {xs : List V}, Reps K F (ns.map .int) xs → xs = ns.map .int
  | [], xs, h => by simpa [Reps] using h
  | n :: ns, xs, h => by
    simp only [List.map_cons, Reps, Rep] at h
    obtain ⟨v, r, rfl, rfl, h2⟩ := h
    rw [Reps.ints h2]; rfl
theorem Reps.ofInts : ∀ {ns : List Int}, Reps K F (ns.map .int) (ns.map .int)
  | [] => by simpa using Reps.nil
  | n :: ns => by
    simp only [List.map_cons]
    exact .cons (by simp [Rep]) Reps.ofInts
end

/-! ### what is a frame's own -/
def Cont (F H : Hp) (a : Addr) : PV → Prop
  | .lst xs => ∃ vs, H a = some (.lst vs) ∧ Reps K F xs vs
  | .dct kvs => ∃ ks, H a = some (.dK ks) ∧ RepD K F kvs ks
  | _ => False
def Cont2 (F H : Hp) (a : Addr) (bs : List Addr) : PV → Prop
  | .lst ys => H a = some (.lst (bs.map V.ref)) ∧ Paired (fun y b => (∃ zs, y = PV.lst zs) ∧ Cont K F H b y) ys bs
  | _ => False
/-- it and its lists are new since the entry -/
def New2 (B F : Hp) (a : Addr) : Prop := B a = none ∧ ∃ vs, F a = some (.lst vs) ∧ ∀ w ∈ vs, ∃ b zs, w = V.ref b ∧ B b = none ∧ F b = some (.lst zs)
def SlotOk (B F H : Hp) : SV → Option V → List Addr → Prop
  | .un, _, as => as = []
  | .shr v, o, as => as = [] ∧ ∃ x, o = some x ∧ Rep K F v x
  | .own v, o, as => ∃ a, as = [a] ∧ o = some (.ref a) ∧ F a = none ∧ Cont K F H a v
  | .own2 v, o, as => ∃ a bs, as = a :: bs ∧ o = some (.ref a) ∧ (∀ b ∈ a :: bs, F b = none) ∧ Cont2 K F H a bs v
  | .frz2 v, o, as => as = [] ∧ ∃ a, o = some (.ref a) ∧ Rep K F v (.ref a) ∧ New2 B F a
abbrev Ad := Nat → List Addr
def Oa (A : Ad) (a : Addr) : Prop := ∃ i, a ∈ A i
def setA (A : Ad) (i : Nat) (as : List Addr) : Ad := fun j => if j = i then as else A j
/-- P: the slots of the parameters that the def writes; B: the heap at the entry -/
structure Sta (P : List Nat) (B F H : Hp) (A : Ad) (ρ : Rho) (σ : L2.St) : Prop where
  ext : Ex F H
  len : ρ.length = σ.length
  ok : ∀ (i : Nat) (s : SV) (o : Option V), ρ[i]? = some s → σ[i]? = some o → SlotOk K B F H s o (A i)
  out : ∀ i, ρ.length ≤ i → A i = []
  nd : ∀ i, (A i).Nodup
  dj : ∀ i j a, a ∈ A i → a ∈ A j → i = j
  new : ∀ i, i ∉ P → ∀ a ∈ A i, B a = none
  mono : ∀ a, B a ≠ none → H a ≠ none
  np : ∀ i v, ρ[i]? = some (.own2 v) → i ∉ P
/-- what a run may change: what stands still stands; what is tracked and not a slot's own stays; a slot's own, a result's own was one's own or is new -/
structure Frm (F H : Hp) (A : Ad) (F' H' : Hp) (A' : Ad) (T : List Addr) : Prop where
  ext : Ex F F'
  keep : ∀ a o, F a = none → H a = some o → ¬ Oa A a → F' a = none ∧ H' a = some o
  own : ∀ a, Oa A' a → Oa A a ∨ H a = none
  tn : ∀ a ∈ T, H a = none
  fre : ∀ a, H a ≠ none → H' a ≠ none
structure TOk (A' : Ad) (F' H' : Hp) (T : List Addr) : Prop where
  nd : T.Nodup
  ap : ∀ a ∈ T, ¬ Oa A' a
  no : ∀ a ∈ T, F' a = none
  th : ∀ a ∈ T, H' a ≠ none
def Res (F H : Hp) (σ : L2.St) : Opd → V → List Addr → Prop
  | .ref i, x, T => T = [] ∧ σ[i]? = some (some x)
  | .imm (.shr v), x, T => T = [] ∧ Rep K F v x
  | .imm (.own v), x, T => ∃ a, T = [a] ∧ x = .ref a ∧ Cont K F H a v
  | .imm (.own2 v), x, T => ∃ a bs, T = a :: bs ∧ x = .ref a ∧ Cont2 K F H a bs v
  | .imm _, _, _ => False
section
variable {K} {P : List Nat} {B F F' F1 F2 H H' H1 H2 : Hp} {A A' A1 A2 : Ad} {T T1 T2 : List Addr} {ρ ρ' : Rho} {σ : L2.St} {a : Addr}
theorem Frm.refl (F H : Hp) (A : Ad) : Frm F H A F H A [] := ⟨Evl.Ex.refl F, fun a o h1 h2 _ => ⟨h1, h2⟩, fun a h => .inl h, (fun _ h => nomatch h), fun _ h => h⟩
theorem TOk.nil : TOk A F H [] := ⟨List.nodup_nil, (fun _ h => nomatch h), (fun _ h => nomatch h), (fun _ h => nomatch h)⟩
theorem Frm.drop (f : Frm F H A F' H' A' T) : Frm F H A F' H' A' [] := ⟨f.ext, f.keep, f.own, (fun _ h => nomatch h), f.fre⟩
theorem Frm.nn (f : Frm F H A F1 H1 A1 T1) (h : H1 a = none) : H a = none := by
  cases q : H a with
  | none => rfl
  | some o => exact absurd h (f.fre a (by rw [q]; exact fun z => nomatch z))
theorem Frm.trans (f : Frm F H A F1 H1 A1 T1) (g : Frm F1 H1 A1 F2 H2 A2 T2) : Frm F H A F2 H2 A2 (T1 ++ T2) where
  ext := f.ext.trans g.ext
  keep := fun a o h1 h2 h3 => by
    obtain ⟨k1, k2⟩ := f.keep a o h1 h2 h3
    refine g.keep a o k1 k2 fun z => ?_
    rcases f.own a z with y | y
    · exact h3 y
    · rw [h2] at y; cases y
  own := fun a h => by
    rcases g.own a h with y | y
    · exact f.own a y
    · exact .inr (f.nn y)
  tn := fun a h => by
    rcases List.mem_append.mp h with h | h
    · exact f.tn a h
    · exact f.nn (g.tn a h)
  fre := fun a h => g.fre a (f.fre a h)
/-- temps stand through a run -/
theorem TOk.on (t : TOk A F H T) (g : Frm F H A F1 H1 A1 T1) : TOk A1 F1 H1 T := ⟨t.nd, fun a h z => by
    rcases g.own a z with y | y
    · exact t.ap a h y
    · exact t.th a h y, fun a h => by
    cases q : H a with
    | none => exact absurd q (t.th a h)
    | some o => exact (g.keep a o (t.no a h) q (t.ap a h)).1, fun a h => g.fre a (t.th a h)⟩
theorem TOk.app (t : TOk A1 F1 H1 T) (g : Frm F1 H1 A1 F2 H2 A2 T2) (t2 : TOk A2 F2 H2 T2) : TOk A2 F2 H2 (T ++ T2) := by
  have t' := t.on g
  refine ⟨List.nodup_append.mpr ⟨t.nd, t2.nd, fun a ha b hb e => ?_⟩, fun a h => ?_, fun a h => ?_, fun a h => ?_⟩
  · subst e
    exact t.th a ha (g.tn a hb)
  · rcases List.mem_append.mp h with h | h
    · exact t'.ap a h
    · exact t2.ap a h
  · rcases List.mem_append.mp h with h | h
    · exact t'.no a h
    · exact t2.no a h
  · rcases List.mem_append.mp h with h | h
    · exact t'.th a h
    · exact t2.th a h
theorem Cont.on {v : PV} (c : Cont K F H a v) (e : Ex F F') (h : ∀ o, H a = some o → H' a = some o) : Cont K F' H' a v := by
  cases v with
  | lst xs => obtain ⟨vs, h1, h2⟩ := c; exact ⟨vs, h _ h1, h2.mono e⟩
  | dct xs => obtain ⟨vs, h1, h2⟩ := c; exact ⟨vs, h _ h1, h2.mono e⟩
  | _ => exact c.elim
theorem Cont.there {v : PV} (c : Cont K F H a v) : ∃ o, H a = some o := by
  cases v with
  | lst xs => obtain ⟨vs, h1, h2⟩ := c; exact ⟨_, h1⟩
  | dct xs => obtain ⟨vs, h1, h2⟩ := c; exact ⟨_, h1⟩
  | _ => exact c.elim
theorem Cont2.on {v : PV} {bs : List Addr} (c : Cont2 K F H a bs v) (e : Ex F F') (h : ∀ b ∈ a :: bs, ∀ o, H b = some o → H' b = some o) : Cont2 K F' H' a bs v := by
  cases v with
  | lst ys =>
    obtain ⟨h1, h2⟩ := c
    refine ⟨h a (by simp) _ h1, ?_⟩
    have h' : ∀ b ∈ bs, ∀ o, H b = some o → H' b = some o := fun b hb => h b (by simp [hb])
    clear h h1
    induction h2 with
    | nil => exact .nil
    | cons p q ih => exact .cons ⟨p.1, p.2.on e (h' _ (by simp))⟩ (ih fun b hb => h' b (by simp [hb]))
  | _ => exact c.elim
theorem Cont2.there {v : PV} {bs : List Addr} (c : Cont2 K F H a bs v) : ∀ b ∈ a :: bs, ∃ o, H b = some o := by
  cases v with
  | lst ys =>
    obtain ⟨h1, h2⟩ := c
    intro b hb
    rcases List.mem_cons.mp hb with rfl | hb
    · exact ⟨_, h1⟩
    · clear h1
      induction h2 with
      | nil => cases hb
      | cons p q ih =>
        rcases List.mem_cons.mp hb with rfl | hb
        · exact p.2.there
        · exact ih (by simp [hb]) hb
  | _ => exact c.elim
theorem New2.on (n : New2 B F a) (e : Ex F F') : New2 B F' a := by
  obtain ⟨h0, vs, h1, h2⟩ := n
  exact ⟨h0, vs, e _ _ h1, fun w hw => by
    obtain ⟨b, zs, e1, e2, e3⟩ := h2 w hw
    exact ⟨b, zs, e1, e2, e _ _ e3⟩⟩
theorem SlotOk.on {s : SV} {o : Option V} {as : List Addr} (c : SlotOk K B F H s o as) (e : Ex F F') (n : ∀ b ∈ as, F b = none → F' b = none) (h : ∀ b ∈ as, ∀ u, H b = some u → H' b = some u) : SlotOk K B F' H' s o as := by
  cases s with
  | un => exact c
  | shr v => obtain ⟨h1, x, h2, h3⟩ := c; exact ⟨h1, x, h2, h3.mono e⟩
  | own v =>
    obtain ⟨a, rfl, h2, h3, h4⟩ := c
    exact ⟨a, rfl, h2, n a (by simp) h3, h4.on e (h a (by simp))⟩
  | own2 v =>
    obtain ⟨a, bs, rfl, h2, h3, h4⟩ := c
    exact ⟨a, bs, rfl, h2, fun b hb => n b hb (h3 b hb), h4.on e h⟩
  | frz2 v =>
    obtain ⟨h1, a, h2, h3, h4⟩ := c
    exact ⟨h1, a, h2, h3.mono e, h4.on e⟩
theorem SlotOk.no {s : SV} {o : Option V} {as : List Addr} (c : SlotOk K B F H s o as) : ∀ b ∈ as, F b = none ∧ ∃ u, H b = some u := by
  cases s with
  | un => rw [show as = [] from c]; exact fun _ z => nomatch z
  | shr v => rw [c.1]; exact fun _ z => nomatch z
  | own v =>
    obtain ⟨a, rfl, h2, h3, h4⟩ := c
    intro b hb
    have e : b = a := by simpa using hb
    subst e
    exact ⟨h3, h4.there⟩
  | own2 v =>
    obtain ⟨a, bs, rfl, h2, h3, h4⟩ := c
    exact fun b hb => ⟨h3 b hb, h4.there b hb⟩
  | frz2 v => rw [c.1]; exact fun _ z => nomatch z
theorem Sta.no (S : Sta K P B F H A ρ σ) {i : Nat} (h : a ∈ A i) : F a = none ∧ ∃ u, H a = some u := by
  by_cases hi : i < ρ.length
  · have h1 : ρ[i]? = some ρ[i] := by simp [hi]
    have h2 : σ[i]? = some (σ[i]'(by rw [← S.len]; exact hi)) := by simp
    exact (S.ok i _ _ h1 h2).no a h
  · rw [S.out i (by omega)] at h
    cases h
theorem Sta.noO (S : Sta K P B F H A ρ σ) (h : Oa A a) : F a = none ∧ ∃ u, H a = some u := let ⟨_, q⟩ := h; S.no q
/-- what is new is no slot's own -/
theorem Sta.fresh (S : Sta K P B F H A ρ σ) (h : H a = none) : ¬ Oa A a := fun z => by
  obtain ⟨_, u, e⟩ := S.noO z
  rw [h] at e; cases e
theorem Sta.freshF (S : Sta K P B F H A ρ σ) (h : H a = none) : F a = none := by
  cases q : F a with
  | none => rfl
  | some o => rw [S.ext _ _ q] at h; cases h
/-- heap and still part change, the slots stand -/
theorem Sta.on (S : Sta K P B F H A ρ σ) (x : Ex F' H') (e : Ex F F') (n : ∀ b, Oa A b → F b = none → F' b = none) (h : ∀ b, Oa A b → ∀ u, H b = some u → H' b = some u) (hm : ∀ a, B a ≠ none → H' a ≠ none) : Sta K P B F' H' A ρ σ :=
  ⟨x, S.len, fun i s o h1 h2 => (S.ok i s o h1 h2).on e (fun b hb => n b ⟨i, hb⟩) fun b hb => h b ⟨i, hb⟩, S.out, S.nd, S.dj, S.new, hm, S.np⟩
theorem ex_new {o : HO} (h : H a = none) (e : Ex F H) : Ex F (upd H a o) := fun b u q => by
  rw [upd_ne (ne_of_none (e b u q) h)]
  exact e b u q
theorem ex_both {o : HO} (h : F a = none) (e : Ex F H) : Ex (upd F a o) (upd H a o) := fun b u q => by
  by_cases hb : b = a
  · subst hb; rw [upd_same] at q ⊢; exact q
  · rw [upd_ne hb] at q ⊢; exact e b u q
theorem upd_there {C : Hp} {o : HO} (m : ∀ a, C a ≠ none → H a ≠ none) : ∀ b, C b ≠ none → upd H a o b ≠ none := fun b q => by
  by_cases hb : b = a
  · subst hb; rw [upd_same]; exact fun z => nomatch z
  · rw [upd_ne hb]; exact m b q
/-- a new thing that stands still -/
theorem Sta.newF (S : Sta K P B F H A ρ σ) {o : HO} (h : H a = none) : Sta K P B (upd F a o) (upd H a o) A ρ σ :=
  S.on (ex_both (S.freshF h) S.ext) (Evl.Ex.new (S.freshF h)) (fun b hb q => by
    rw [upd_ne]; exact q
    rintro rfl; exact S.fresh h hb) (fun b hb u q => by
    rw [upd_ne]; exact q
    rintro rfl; rw [h] at q; cases q) (upd_there S.mono)
/-- a new thing of a result's own -/
theorem Sta.newH (S : Sta K P B F H A ρ σ) {o : HO} (h : H a = none) : Sta K P B F (upd H a o) A ρ σ :=
  S.on (ex_new h S.ext) (Evl.Ex.refl F) (fun _ _ q => q) (fun b hb u q => by
    rw [upd_ne]; exact q
    rintro rfl; rw [h] at q; cases q) (upd_there S.mono)
theorem Frm.newF {o : HO} (h : H a = none) (hF : F a = none) : Frm F H A (upd F a o) (upd H a o) A [] := ⟨Evl.Ex.new hF, fun b u h1 h2 _ => by
    have : b ≠ a := by rintro rfl; rw [h] at h2; cases h2
    rw [upd_ne this, upd_ne this]; exact ⟨h1, h2⟩, fun b q => .inl q, (fun _ z => nomatch z), upd_there fun _ q => q⟩
theorem Frm.newH {o : HO} (h : H a = none) : Frm F H A F (upd H a o) A [a] := ⟨Evl.Ex.refl F, fun b u h1 h2 _ => by
    have : b ≠ a := by rintro rfl; rw [h] at h2; cases h2
    rw [upd_ne this]; exact ⟨h1, h2⟩, fun b q => .inl q, fun b q => by
    have e : b = a := by simpa using q
    subst e; exact h, upd_there fun _ q => q⟩
theorem TOk.newH (S : Sta K P B F H A ρ σ) {o : HO} (h : H a = none) : TOk A F (upd H a o) [a] := ⟨by simp, fun b q => by
    have e : b = a := by simpa using q
    subst e; exact S.fresh h, fun b q => by
    have e : b = a := by simpa using q
    subst e; exact S.freshF h, fun b q => by
    have e : b = a := by simpa using q
    subst e; rw [upd_same]; exact fun z => nomatch z⟩
/-- a result's own comes to stand still -/
theorem freeze {o : HO} (S : Sta K P B F H A ρ σ) (t : TOk A F H (a :: T)) (h : H a = some o) : Sta K P B (upd F a o) H A ρ σ ∧ TOk A (upd F a o) H T ∧ Ex F (upd F a o) := by
  have hn : F a = none := t.no a (by simp)
  refine ⟨S.on (fun b u q => ?_) (Evl.Ex.new hn) (fun b hb q => ?_) (fun _ _ _ q => q) S.mono, ⟨(List.nodup_cons.mp t.nd).2, fun b hb => t.ap b (by simp [hb]), fun b hb => ?_, fun b hb => t.th b (by simp [hb])⟩, Evl.Ex.new hn⟩
  · by_cases hb : b = a
    · subst hb; rw [upd_same] at q; cases q; exact h
    · rw [upd_ne hb] at q; exact S.ext b u q
  · rw [upd_ne]; exact q
    rintro rfl; exact t.ap b (by simp) hb
  · rw [upd_ne]
    · exact t.no b (by simp [hb])
    · rintro rfl; exact (List.nodup_cons.mp t.nd).1 hb
theorem Frm.freeze {o : HO} (f : Frm F H A F' H' A' (a :: T)) (h : H' a = some o) (hn : F' a = none) : Frm F H A (upd F' a o) H' A' T := ⟨f.ext.trans (Evl.Ex.new hn), fun b u h1 h2 h3 => by
    obtain ⟨k1, k2⟩ := f.keep b u h1 h2 h3
    refine ⟨?_, k2⟩
    rw [upd_ne]; exact k1
    rintro rfl
    (rw [f.tn b (by simp)] at h2; cases h2), f.own, fun b z => f.tn b (by simp [z]), f.fre⟩
end
end KL
end
section
set_option Elab.async false
set_option linter.all false
set_option maxRecDepth 100000
set_option maxHeartbeats 4000000
/-! KX1: super().__init__(text) within an own exception's __init__ (class over .. over ValueError). -/
namespace KL
open PySem PySem.Spec PyProof.Rows L2 PySem.W
/-- what the written part says of such an __init__ (f) of the class C: cc the cell of __class__, cda its code -/
structure SupF (K : PySem.W.Frag) (P : Program) (f cc cda C : Addr) (fd : FuncData) (ar : Str) : Prop where
  fo : ∃ oc od osl, K.lookup f = some ⟨oc, od, .func fd, osl⟩
  hp : ∃ a : Arg, (fd.params.posonlyargs ++ fd.params.args).head? = some a ∧ a.arg = ar
  code : ∃ (c : Value) (d : Option Addr) (vs : Array Value) (sl : Array (Option Value)) (file : Str) (tf : Tok), K.lookup cda = some ⟨c, d, .fields vs, sl⟩ ∧ vs[2]? = some (.str file tf) ∧ ((P.main.file : Str) == file) = true
  top : (P.main.scope.names.lookup ("super" : Str)).isSome = false
  cell : ∃ c d sl, K.lookup cc = some ⟨c, d, .cell (some (.ref C)), sl⟩
  cls : ∃ cd, PySem.W.clsIn K C = some cd
  mro : PySem.W.mroIn K C (.ref C) = some true
  opq : PySem.W.nsIn K cStatics "thirdparty.any" = some none
  sup : PySem.W.ks_superIn K C C "__init__" = some (some (.builtin "ValueError.__init__"))
  ve : PySem.W.subIn K (.ref C) (.type "ValueError") = some true
section
variable {X : Cx} {pins : List (Addr × Obj)} {σ : L2.St} {H : Hp} {s : Shared} {a C f cc cda u : Addr} {fd : FuncData} {ar msg : Str} {i kk : Nat} {p0 p1 p2 ap cp ep : Pos} {body : List Stmt} {Q : Flow → Shared → Prop}
/-- the bound built-in __init__ called -/
theorem mw_call {us : List Value} {Q : Value → Shared → Prop} {E : Value → Shared → Prop} (T : OexC X.K C) (I : Inv X pins σ H s) (e : H a = some (exo a C none)) (hu : s.heap.get? u = some (kxs_mw "ValueError.__init__" a)) (hl : us.length ≤ sizeLine) (h : ∀ s', Inv X pins σ H s' → Q .none s') :
    wpAny (model X.prog X.w) X.A (call (.ref u) us) Q E s := by
  obtain ⟨nm, q, N, bs, bm, sn, sub, ab, col, dd, k0, k1, k2, k3, k5, hC, hbm⟩ := T.cls
  obtain ⟨t1, ho⟩ := exo_at I.hok e
  have hCs := I.kIn _ _ hC
  obtain ⟨hp, g, d, t, os⟩ := s
  refine wpAny_call (codeAny_of_tree ?_)
  show wpAny _ X.A.in1 (callAny (.ref u) ⟨us, []⟩) _ _ _
  simp only [callAny]
  refine wpAny_bind (wpAny_load hu ?_)
  simp only [kxs_mw, show (Value.type "method-wrapper" == Value.type "method" || Value.type "method-wrapper" == Value.type "builtin_function_or_method" || Value.type "method-wrapper" == Value.type "method-wrapper") = true by decide, if_true]
  refine KFB.if_so (by decide) ?_
  refine wpAny_bind (check_bound_init F.excBase_ValueError.toExcCallFacts hCs ho rfl ?_)
  refine wpAny_bind (wpAny_pure (wpAny_pure ?_))
  refine ⟨plainId_quiet F.excBase_ValueError.init.plain _, codeAny_builtin F.excBase_ValueError.initEntry ?_⟩
  refine exc_init_tree (cls := .ref C) (t0 := t1) (dv := none) (c2 := .none) (c3 := .none) (b4 := .bool false) ho hl fun h' k hx ht => ?_
  have J := I.write (t' := t) (x := a) (e := a) (o := exo a C none) (by rw [e]; exact True.intro) (.inl rfl) k ⟨_, hx⟩ (exo_ok hx)
  have eu : upd H a (exo a C none) = H := by
    funext b
    by_cases hb : b = a
    · rw [hb, upd_same, e]
    · rw [upd_ne hb]
  rw [eu] at J
  exact h _ J
theorem super_init (T : OexC X.K C) (U : SupF X.K X.prog f cc cda C fd ar) (I : Inv X pins σ H s) (hN : X.N[i]? = some ar) (hσ : σ[i]? = some (some (.ref a))) (hl : X.env.scope.names.lookup ar = some .local)
    (hks : X.env.scope.names.lookup ("super" : Str) = some .globalImplicit) (hkc : X.env.scope.names.lookup ("__class__" : Str) = some .free) (hcc : X.env.cells.lookup ("__class__" : Str) = some cc) (hfu : X.env.func = some f) (hco : X.env.code = .ref cda)
    (hm : X.mg "super" = none) (hline : (ap.endLine == cp.line) = true) (ea : H a = some (exo a C none)) (hq : ∀ s', Inv X pins σ H s' → Q .next s') :
    _root_.PySem.wpAt (model X.prog X.w) X.A (.func body X.env) (exec (.Expr (.Call (.Attribute (.Call (.Name "super" p0) [] [] p1) "__init__" ap) [.Constant (.str msg) kk p2] [] cp) ep) X.env) Q X.xe s := by
  have hk := I.ok.kind
  have X₀ := I.kIn
  obtain ⟨oc, od, osl, hf⟩ := U.fo
  obtain ⟨ar', hp, har⟩ := U.hp
  obtain ⟨ccl, cdd, vs, ccs, file, tf, hcode, hvs, hfile⟩ := U.code
  obtain ⟨cl, cld, csl, hcell⟩ := U.cell
  obtain ⟨cdC, hC⟩ := U.cls
  obtain ⟨mb, hb1, hb2⟩ := I.mod.blt
  obtain ⟨m, hns, hloc⟩ := I.loc
  obtain ⟨v, hv1, hv2⟩ := hloc i ar (.ref a) hN hσ (.inl hl)
  obtain rfl : v = Value.ref a := hv1
  have hma : m ar = some (.ref a) := by
    rcases hv2 with ⟨_, h⟩ | ⟨h, _⟩
    · exact h
    · have h : X.env.scope.names.lookup ar = some .cell ∨ X.env.scope.names.lookup ar = some .free := h
      rw [hl] at h
      rcases h with h | h <;> cases h
  obtain ⟨t0, hoa⟩ := exo_at I.hok ea
  obtain ⟨oC, hC1, hC2⟩ : ∃ oC, s.heap.get? C = some oC ∧ oC.data = .cls cdC := by
    unfold clsIn at hC
    split at hC
    · rename_i c d cd' sl ho
      cases hC
      exact ⟨_, X₀ _ _ ho, rfl⟩
    · cases hC
  have haC : a ≠ C := by
    rintro rfl
    rw [hoa] at hC1
    cases hC1
    cases hC2
  have hint : interactive X.env = false := by
    unfold interactive
    rw [hk]
    rfl
  refine ks_wpAt_Expr_any ?_ hint rfl
  have he : eval (.Call (.Attribute (.Call (.Name "super" p0) [] [] p1) "__init__" ap) [.Constant (.str msg) kk p2] [] cp) X.env = (do
      let ov ← attributeBase (.Call (.Name "super" p0) [] [] p1) "__init__" X.env (eval (.Call (.Name "super" p0) [] [] p1) X.env)
      standAt ap.atName
      let (f, first) ← holding [ov] (getMethod ov "__init__" (do return (← importBound (.Call (.Name "super" p0) [] [] p1) X.env).getD true))
      callWith cp f first (backTo cp (starEach [.Constant (.str msg) kk p2] X.env)) []) := by
    have e2 : methodCallPos true (.Call (.Name "super" p0) [] [] p1) X.env ap cp = pure cp := by
      unfold methodCallPos
      rw [hline]
      rfl
    show (do
      let ov ← attributeBase (.Call (.Name "super" p0) [] [] p1) "__init__" X.env (eval (.Call (.Name "super" p0) [] [] p1) X.env)
      standAt ap.atName
      let (f, first) ← holding [ov] (getMethod ov "__init__" (do return (← importBound (.Call (.Name "super" p0) [] [] p1) X.env).getD true))
      let callPos ← methodCallPos true (.Call (.Name "super" p0) [] [] p1) X.env ap cp
      callWith callPos f first (backTo cp (starEach [.Constant (.str msg) kk p2] X.env)) []) = _
    rw [e2]
    rfl
  refine ks_wpAt_MethodCall ?_ he
  refine ks_wpAt_super_base hks hkc (by decide) hfu (X₀ _ _ hf) rfl hp hco (X₀ _ _ hcode) rfl hvs hfile U.top ?_
  refine ks_loadName_global hk hks (Calls.loadGlobal_builtin (by rw [I.ok.glob]; exact I.mod.glob.keeps I.bk) hm (by rw [I.ok.blt]; exact hb1.keeps I.bk) ((hb2 _ (by decide)).trans (by rfl)) ⟨rfl, ?_⟩)
  refine wpAny_loadName_free hk hkc hcc ⟨_, X₀ _ _ hcell, rfl⟩ ?_
  refine wpAny_loadName_local hk (by rw [har]; exact hl) hns (by rw [har]; exact hma) ?_
  refine ks_wpAny_isType_cls hC1 hC2 ⟨rfl, ?_⟩
  have IA : InstAt s.heap a { cls := .ref C, dict := none, data := .fields #[.ref t0, .none, .none, .none, .bool false, .none] } C none := ⟨hoa, rfl, rfl, trivial⟩
  obtain ⟨hp0, g, d, t, os⟩ := s
  refine ks_wpAny_call_super hC1 hC2 hoa rfl (fun c e => by cases e) (looks_mroIn X₀ U.mro) (fun h1 e1 k1 => ?_)
  have I1 : Inv X pins σ H ⟨h1, g, d, t, os⟩ := I.kept (t' := t) k1
  have IA1 : InstAt h1 a { cls := .ref C, dict := none, data := .fields #[.ref t0, .none, .none, .none, .bool false, .none] } C none := ⟨k1 _ _ hoa, rfl, rfl, trivial⟩
  have hI : Looks (model X.prog X.w) h1 (isInstance (.ref a) (.type "ValueError")) true := IA1.type.andThen (looks_subIn I1.kIn U.ve)
  have hsup := U.sup
  unfold ks_superIn at hsup
  rw [hC] at hsup
  refine kxs_getMethod kxs_ValueError e1 (looks_opaque I1.kIn U.opq) (l₀ := cdC.mro) (fun A Q E s k q => wpAny_bind ((looks_clsIn I1.kIn hC) A _ E s k (wpAny_pure q))) rfl I1.kIn hsup hI haC (by decide) ?_
  have hu : H h1.objs.size = none := I1.hok.fresh (Nat.le_refl _)
  have I2 : Inv X pins σ H ⟨h1.push (kxs_mw "ValueError.__init__" a), g, d, t + 1, os⟩ := I1.kept (t' := t + 1) fun b o e => Heap.get?_push_of_some _ e
  have hmw : (h1.push (kxs_mw "ValueError.__init__" a)).get? h1.objs.size = some (kxs_mw "ValueError.__init__" a) := Heap.get?_push_at rfl rfl
  have I3 : Inv X ((h1.objs.size, kxs_mw "ValueError.__init__" a) :: pins) σ H ⟨h1.push (kxs_mw "ValueError.__init__" a), g, d, t + 1, os⟩ := I2.pins_of fun p hp => by
    rcases List.mem_cons.mp hp with rfl | hp
    · refine ⟨hmw, hu, fun e => ?_, I1.nofs (Nat.le_refl _), fun v e => by cases e⟩
      have := I1.lt
      rw [← e] at this
      exact absurd this (Nat.lt_irrefl _)
    · exact I2.pin p (List.mem_append_right _ hp)
  refine kxs_callWith (i := "ValueError.__init__") (x := a) rfl (Calls.evalArgs_plain ?_)
  refine wpAny_mono ((pa_cons (X := X) (pe_str (x := msg) (j := kk) (pos := p2)) pa_nil).run cp _ _ σ H (fun vs H1 => vs = [.str msg] ∧ H1 = H) I3 ⟨rfl, rfl⟩) (fun us s1 hus => ?_) fun _ _ z => z
  obtain ⟨vs1, H1, J, r, rfl, rfl⟩ := hus
  refine ⟨(J.pin _ (List.mem_append_right _ List.mem_cons_self)).1, ?_⟩
  have J' : Inv X pins σ H1 s1 := J.pins_of fun p hp => J.pin p (List.mem_append_right _ (List.mem_cons_of_mem _ hp))
  exact mw_call T J' ea (J.pin _ (List.mem_append_right _ List.mem_cons_self)).1 (by
    have := Paired.length r
    show us.length ≤ sizeLine
    rw [← this, sizeLine_eq]
    show (1 : Nat) ≤ _
    omega) fun s' I' => hq s' I'
end
end KL
end
section
set_option Elab.async false
set_option linter.all false
set_option maxRecDepth 100000
set_option maxHeartbeats 4000000
/-! KX2: an own exception's __init__ (super().__init__(text); self.f = x) keeps its promise. -/
namespace KL
open PySem PySem.Spec PyProof.Rows L2 PySem.W
/-- C's __init__ of one field -/
def spXI (K : PySem.W.Frag) (C : Addr) (fld : Str) : Sp := fun vs H Q _ => ∃ (a : Addr) (y : V), vs = [.ref a, y] ∧ H a = some (exo a C none) ∧
  ∀ d, H d = none → d ≠ a → Q .non (upd (upd H d (exd d [(fld, y)])) a (exo a C (some d)))
/-- the context of such an __init__'s body -/
def cxI (P : Program) (w : World) (K : PySem.W.Frag) (mg : Str → Option Value) (base : Heap) (N : List Str) (env : Env) (A : Around) (outer : List Env) (s : Shared) (H : Hp) (E : XK) : Cx where
  prog := P
  w := w
  K := K
  mg := mg
  base := base
  A := A.deeper env
  N := N
  s_0 := s
  H_0 := H
  env := env
  outer := outer
  stack := env :: outer
  ex := []
  calm := true
  fn := fun _ => false
  pn := []
  xe := fun e s' => wpAny (model P w) (A.deeper env) (leaving env e) (fun _ s'' => L2.CX P w outer H s E e s'') (fun e' s'' => L2.CX P w outer H s E e' s'') s'
theorem xinit_ok {P : Program} {w : World} {K : PySem.W.Frag} {mg : Str → Option Value} {base : Heap} {f cc cda C : Addr} {name qual a0 a1 fld msg : Str} {params : Arguments} {scope : Scope} {kV doc pm oc ct : Value} {an od : Option Addr} {osl : Array (Option Value)}
    {kk : Nat} {p0 p1 p2 p3 p4 p5 p6 ap cp ep : Pos}
    (lk : K.lookup f = some ⟨oc, od, .func (ksFn name qual params [.Expr (.Call (.Attribute (.Call (.Name "super" p0) [] [] p1) "__init__" ap) [.Constant (.str msg) kk p2] [] cp) ep, .Assign [.Attribute (.Name a0 p3) fld p4] (.Name a1 p5) p6] scope .none kV doc pm an (.ref cda) ct cc), osl⟩)
    (hcd : PySem.W.codeIn K (.ref cda) qual = true) (T : OexC K C) (hno : PySem.W.findIn K (.ref C) fld = some none)
    (U : SupF K P f cc cda C (ksFn name qual params [.Expr (.Call (.Attribute (.Call (.Name "super" p0) [] [] p1) "__init__" ap) [.Constant (.str msg) kk p2] [] cp) ep, .Assign [.Attribute (.Name a0 p3) fld p4] (.Name a1 p5) p6] scope .none kV doc pm an (.ref cda) ct cc) a0)
    (hk : scope.kind = .function) (hco : scope.isCoroutine = false) (hgen : scope.isGenerator = false) (hcell : ∀ x ∈ scope.names, x.2 ≠ .cell) (l0 : scope.names.lookup a0 = some .local) (l1 : scope.names.lookup a1 = some .local) (hne : a0 ≠ a1)
    (hks : scope.names.lookup ("super" : Str) = some .globalImplicit) (hkc : scope.names.lookup ("__class__" : Str) = some .free) (hfree : ∀ x ∈ scope.names, x.2 = .free → x.1 = ("__class__" : Str)) (hm : mg "super" = none) (hline : (ap.endLine == cp.line) = true)
    (d0 : (a0 == ("__debug__" : Str)) = false) (d1 : (a1 == ("__debug__" : Str)) = false) (c0 : (a0 == ("__classdict__" : Str)) = false) (c1 : (a1 == ("__classdict__" : Str)) = false) :
    FnOk P w K mg base (L2.CX P w) 1 f (ksFn name qual params [.Expr (.Call (.Attribute (.Call (.Name "super" p0) [] [] p1) "__init__" ap) [.Constant (.str msg) kk p2] [] cp) ep, .Assign [.Attribute (.Name a0 p3) fld p4] (.Name a1 p5) p6] scope .none kV doc pm an (.ref cda) ct cc) [a0, a1] (spXI K C fld) := by
  generalize hfd : ksFn name qual params [.Expr (.Call (.Attribute (.Call (.Name "super" p0) [] [] p1) "__init__" ap) [.Constant (.str msg) kk p2] [] cp) ep, .Assign [.Attribute (.Name a0 p3) fld p4] (.Name a1 p5) p6] scope .none kV doc pm an (.ref cda) ct cc = fd at lk U ⊢
  refine ⟨fun vs H Q E ⟨a, y, e, _⟩ => by rw [e]; rfl, fun A outer s H args us vs Q E hr e0 hb r hsp => ?_⟩
  obtain ⟨a, y, rfl, ea, q⟩ := hsp
  obtain ⟨u1, hus, hy⟩ : ∃ u1, us = [.ref a, u1] ∧ RelV y u1 := by
    cases r with
    | cons ra rr => cases rr with
      | cons rb rr => cases rr; cases ra; exact ⟨_, rfl, rb⟩
  subst hus
  have KX : K.In s.heap := e0.mod.kin.keeps fun b o e => (e0.bs b o e).1
  have lim : s.heap.NoLimit := e0.mod.nolimit.keeps fun b o e => (e0.bs b o e).1
  have hbody : fd.body = .stmts [.Expr (.Call (.Attribute (.Call (.Name "super" p0) [] [] p1) "__init__" ap) [.Constant (.str msg) kk p2] [] cp) ep, .Assign [.Attribute (.Name a0 p3) fld p4] (.Name a1 p5) p6] := by rw [← hfd]
  have hsc : fd.scope = scope := by rw [← hfd]
  have henv : callEnv fd s.heap.objs.size f = ksEnv qual scope s.heap.objs.size f (.ref cda) cc := by rw [← hfd]; rfl
  refine ks_codeAny_call_defAt hr.depth (KX _ _ lk) rfl lim (by rw [← hfd]; exact codeRec_of KX hcd) hbody hb (by rw [hsc]; exact hcell) (fun x hx => ?_) (fun h0 hns hkp => ?_) (by rw [hsc]; exact hco) (by rw [hsc]; exact hgen) (by rw [hsc]; exact hk)
  · rw [hsc]
    rcases List.mem_cons.mp hx with rfl | hx
    · exact l0
    · rcases List.mem_cons.mp hx with rfl | hx
      · exact l1
      · cases hx
  rw [henv]
  have hns' : h0.Ns s.heap.objs.size (fun x => ([(a0, Value.ref a), (a1, u1)] : List (Str × Value)).reverse.lookup x) := hns
  generalize hX : cxI P w K mg base [a0, a1] (ksEnv qual scope s.heap.objs.size f (.ref cda) cc) A outer s H E = X
  have I : Inv X [] [some (.ref a), some y] H ⟨h0, s.gens, s.drawn, s.toks + 2, s.os⟩ := by
    subst hX
    obtain ⟨cl, cld, csl, hcellK⟩ := U.cell
    have nb : ∀ b o, K.lookup b = some o → base.get? b = some o := fun b o e => e0.mod.kin b o e
    have frc : ∀ x k, scope.names.lookup x = some k → k = .cell ∨ k = .free → x = ("__class__" : Str) := fun x k e h => by
      have hm := PySem.mem_of_lookup e
      rcases h with h | h
      · exact absurd h (hcell _ hm)
      · exact hfree _ hm h
    refine ⟨⟨e0.mod, hk, rfl, rfl, Nat.le_refl _, fun x z c h1 h2 => ?_, fun x hx => ?_, (fun x c h _ => by cases h), fun _ => hr.hd, Around.frames_deeper e0.frames, .inr ⟨rfl, rfl⟩, (fun b z => nomatch z), e0.bs, e0.bsz, (fun b _ _ z => nomatch z), (fun b z => nomatch z), e0.funs, e0.frf⟩,
      rfl, e0.bare, Un.kept hkp, ⟨_, hns', fun i x v h1 h2 h3 => ?_⟩, fun x c h => ?_, e0.hok.fresh (Nat.le_refl _), fun x c h => ?_, (fun p hp => nomatch hp), e0.hok.kept hkp, rfl⟩
    · have k1 : ∀ {x c}, ([(("__class__" : Str), cc)] : List (Str × Addr)).lookup x = some c → x = ("__class__" : Str) := fun {x c} h => by
        simp only [List.lookup] at h
        split at h
        · rename_i e; exact beq_iff_eq.mp e
        · cases h
      rw [k1 h1, k1 h2]
    · have hx : scope.names.lookup x = some .cell ∨ scope.names.lookup x = some .free := hx
      have e : x = ("__class__" : Str) := by
        rcases hx with hx | hx
        · exact frc x _ hx (.inl rfl)
        · exact frc x _ hx (.inr rfl)
      subst e
      exact ⟨cc, by simp [cxI, List.lookup]⟩
    · match i, h1, h2 with
      | 0, h1, h2 =>
        simp only [cxI, List.getElem?_cons_zero, Option.some.injEq] at h1 h2
        subst h1; subst h2
        refine ⟨.ref a, rfl, .inl ⟨l0, ?_⟩⟩
        have e : (a0 == a1) = false := by simpa using hne
        simp [List.lookup, e]
      | 1, h1, h2 =>
        simp only [cxI, List.getElem?_cons_succ, List.getElem?_cons_zero, Option.some.injEq] at h1 h2
        subst h1; subst h2
        exact ⟨u1, hy, .inl ⟨l1, by simp [List.lookup]⟩⟩
      | _ + 2, h1, h2 => simp [cxI] at h1
    · have e : c = cc := by
        have h : ([(("__class__" : Str), cc)] : List (Str × Addr)).lookup x = some c := h
        simp only [List.lookup] at h
        split at h
        · exact (Option.some.inj h).symm
        · cases h
      subst e
      exact ⟨some (.ref C), _, hkp _ _ (KX _ _ hcellK), rfl⟩
    · have e : c = cc := by
        have h : ([(("__class__" : Str), cc)] : List (Str × Addr)).lookup x = some c := h
        simp only [List.lookup] at h
        split at h
        · exact (Option.some.inj h).symm
        · cases h
      subst e
      exact (e0.bs _ _ (nb _ _ hcellK)).2
  have hXe : X.env = ksEnv qual scope s.heap.objs.size f (.ref cda) cc := by rw [← hX]; rfl
  have hXK : X.K = K := by rw [← hX]; rfl
  have hXP : X.prog = P := by rw [← hX]; rfl
  have hXw : X.w = w := by rw [← hX]; rfl
  have hXN : X.N = [a0, a1] := by rw [← hX]; rfl
  have hXm : X.mg = mg := by rw [← hX]; rfl
  have hXA : X.A = A.deeper (ksEnv qual scope s.heap.objs.size f (.ref cda) cc) := by rw [← hX]; rfl
  have hXxe : X.xe = fun e s' => wpAny (model P w) (A.deeper (ksEnv qual scope s.heap.objs.size f (.ref cda) cc)) (leaving (ksEnv qual scope s.heap.objs.size f (.ref cda) cc) e) (fun _ s'' => L2.CX P w outer H s E e s'') (fun e' s'' => L2.CX P w outer H s E e' s'') s' := by rw [← hX]; rfl
  have fin : ∀ {σ' : L2.St} {H' : Hp} {s' : Shared} {v : V} {u : Value}, Inv X [] σ' H' s' → RelV v u → Q v H' → CE outer P w H s Q u s' := by
    subst hX
    exact fun {σ' H' s' v u} J rv q => ⟨v, H', J.os, J.bare, J.base, J.hok, rv, q⟩
  rw [← hXA, ← hXe, ← hXP, ← hXw]
  refine ks_wpAt_execs_cons ?_
  refine ks_wpAt_mono (super_init (i := 0) (Q := fun f s' => f = .next ∧ Inv X [] [some (.ref a), some y] H s') (by rw [hXK]; exact T) (by rw [hXK, hXP]; exact U) I (by rw [hXN]; rfl) rfl (by rw [hXe]; exact l0) (by rw [hXe]; exact hks) (by rw [hXe]; exact hkc) (by rw [hXe]; simp [List.lookup]) (by rw [hXe]) (by rw [hXe]) (by rw [hXm]; exact hm) hline ea fun s' J => ⟨rfl, J⟩) (fun fl s' hfl => ?_) fun e s' he => by rw [hXxe] at he; rw [hXA, hXP, hXw, hXe]; exact he
  obtain ⟨rfl, J⟩ := hfl
  refine wpAt_of_wpAny ?_
  have st : PSs X [.Assign [.Attribute (.Name a0 p3) fld p4] (.Name a1 p5) p6] _ := pss_one (ps_ost (pe_var (X := X) (i := 0) (x := a0) (pos := p3) (by rw [hXN]; rfl) (.inl (by rw [hXe]; exact l0)) d0 c0) (pe_var (X := X) (i := 1) (x := a1) (pos := p5) (by rw [hXN]; rfl) (.inl (by rw [hXe]; exact l1)) d1 c1) rfl)
  refine wpAny_mono (st.run [] s' _ H { nx := fun _ H' => Q .non H', rt := Q } J ?_) (fun fl s2 hs => ?_) fun e s2 hs => by rw [hXxe] at hs; rw [hXA, hXP, hXw, hXe]; exact hs
  · refine ⟨y, rfl, .ref a, rfl, a, C, rfl, by rw [hXK]; exact T, by rw [hXK]; exact hno, .inl ⟨ea, fun dx n ne => q dx n ne⟩⟩
  · cases fl with
    | ret u =>
      obtain ⟨v, σ', H', J, rv, q⟩ := hs
      rw [hXP, hXw]
      exact fin J rv q
    | next =>
      obtain ⟨σ', H', J, q⟩ := hs
      rw [hXP, hXw]
      exact fin (v := V.non) (u := Value.none) J rfl q
    | brk =>
      obtain ⟨_, _, _, q⟩ := hs
      exact False.elim q
    | cont =>
      obtain ⟨_, _, _, q⟩ := hs
      exact False.elim q
end KL
end
section
set_option Elab.async false
set_option linter.all false
set_option maxRecDepth 100000
set_option maxHeartbeats 4000000
/-! KX3: isinstance of a caught error of an own class that has fields. -/
namespace KL
open PySem PySem.Spec PySem.Calls PyProof.Rows PySem.W
section
variable {prog : Program} {w : World} {A : Around} {E : Value → Shared → Prop} {s : Shared} {K : Frag} {x D : Addr} {ox : Obj} {od : Option Obj}
theorem findObj_dataD {C : Addr} {name : Str} {a g : Value} (hc : (clsIn K C).isSome = true) (ha : findIn K (.ref C) name = some (some a)) (hg : specialIn K a "__get__" = some (some g)) (ht : takesIn K a = some true) : findObj K C od name = some (.bind g a) := by
  obtain ⟨cd, hc⟩ := Option.isSome_iff_exists.mp hc
  unfold findObj
  rw [hc, Option.bind_some, ha, Option.bind_some]
  simp [hg, ht]
theorem kin_classD {Q : Option Value → Shared → Prop} (C : L2.ExcC K D) (X : K.In s.heap) (I : InstAt s.heap x ox D od) (h : Q (some (.ref D)) { s with toks := s.toks + 1 }) : wpAny (model prog w) A (getAttr? (.ref x) "__class__") Q E s := by
  obtain ⟨hga, hgt, hsub, hdct, ha, hn, htk, hm⟩ := C
  have hf : findObj K D od "__class__" = some (.bind (.builtin "getset_descriptor.__get__") (.builtin "object.__class__")) := findObj_dataD (by obtain ⟨cd, hc, _⟩ := any_some hdct; rw [hc]; rfl) ha hn htk
  obtain ⟨hp, g, d, t, os⟩ := s
  have L0 := I.type (M := model prog w)
  have L1 := looks_findIn (M := model prog w) X hga
  have L2 := looks_findIn (M := model prog w) X hgt
  have L3 := looks_find (M := model prog w) X I hf
  have sub : Looks (model prog w) hp (isInstance (.ref x) (.type "BaseException")) true := L0.andThen (looks_subIn X hsub)
  have hx0 : (false && onTheHeap (Value.builtin "BaseException.__getattribute__")) = false := rfl
  have hx2 : (Value.builtin "BaseException.__getattribute__" == Value.builtin "object.__getattribute__") = false := by decide +kernel
  have hx1 : (onTheHeap (Value.ref D) && Value.builtin "BaseException.__getattribute__" == Value.builtin "object.__getattribute__") = false := by rw [hx2]; rfl
  unfold getAttr? getAttrBy? getAttrBy
  refine wpAny_bind (wpAny_mkText (wpAny_bind (wpAny_attempt (wpAny_holding (wpAny_bind (L0.at (wpAny_bind (L1.at ?_))))))))
  show wpAny _ _ (if (onTheHeap (Value.ref D) && Value.builtin "BaseException.__getattribute__" == Value.builtin "object.__getattribute__") = true then _ else _) _ _ _
  rw [hx1, if_neg Bool.false_ne_true]
  unfold getAttrByItsOwn hookBefore
  refine wpAny_bind ?_
  rw [if_pos (show onTheHeap (Value.ref D) = true from rfl)]
  refine L2.at ?_
  refine wpAny_bind (wpAny_attempt (wpAny_holding ?_))
  unfold callGetattribute
  rw [hx0, if_neg Bool.false_ne_true]
  unfold boundAndCalled
  rw [PySem.F.excAttr_ValueError.ga.bind (.ref x)]
  refine wpAny_bind (wpAny_pure ?_)
  show wpAny _ _ (call (.builtin "BaseException.__getattribute__") [.ref x, .str "__class__" t]) _ _ _
  refine wpAny_call (codeAny_call_builtin PySem.F.excAttr_ValueError.ga.plain PySem.F.entry_bexc_ga ?_)
  refine @check_slot (model prog w) _ _ ⟨hp, g, d, t + 1, os⟩ "BaseException.__getattribute__" "BaseException" "__getattribute__" (.ref x) [.str "__class__" t] [] _ (by decide +kernel) (by decide +kernel) sub (PySem.F.args_bexc_ga (.ref x) (.str "__class__" t)) ?_
  unfold Builtin.«object.__getattribute__»
  refine wpAny_bind (wpAny_of_eq (a := ((Value.ref x : Value), [Value.str "__class__" t])) (by first | rfl | (simp only [slotArgs]; rfl)) ?_)
  refine wpAny_bind (wpAny_pure (wpAny_bind (L0.at (wpAny_bind (L3.at ?_)))))
  show wpAny _ _ (holding [Value.builtin "object.__class__"] (call (.builtin "getset_descriptor.__get__") [.builtin "object.__class__", .ref x, .ref D]) >>= ret) _ _ _
  refine wpAny_bind (wpAny_holding (wpAny_call (class_get (s := ⟨hp, g, d, t + 1, os⟩) (ox := ox) (od := od) X I hm ?_)))
  refine wpAny_pure ?_
  show wpAny _ _ (handedOut (.ref D)) _ _ _
  rw [handedOut_of (v := .ref D) rfl]
  first
    | exact wpAny_pure (wpAny_pure h)
    | exact wpAny_pure h
    | exact wpAny_pure (wpAny_bind (wpAny_pure (wpAny_pure h)))
theorem kitx_excD (C : L2.ExcC K D) : KitX K (.ref x) (.ref D) (fun h => InstAt h x ox D od) where
  ty := fun _ _ _ I => I.type
  it := fun _ _ X _ => by
    obtain ⟨cdD, hcD, _⟩ := any_some C.hd
    unfold clsIn at hcD
    split at hcD
    · rename_i c' d' cd' sl' ho
      intro A' Q' E' s' k q
      unfold isType loadHead
      exact wpAny_bind (wpAny_loadPart (k _ _ (X _ _ ho)) (wpAny_pure q))
    · cases hcD
  ne := fun h tp dd its n sl X htp => by
    obtain ⟨cdD, hcD, _⟩ := any_some C.hd
    refine Bool.eq_false_iff.mpr fun q => ?_
    have e : D = tp := Value.ref.inj (beq_iff_eq.mp q)
    subst e
    unfold clsIn at hcD
    split at hcD
    · rename_i c' d' cd' sl' ho
      have z := (X _ _ ho).symm.trans htp
      cases z
    · cases hcD
  ca := fun X I k => kin_classD C X I k
end
open L2
/-- isinstance(e, c), e the exception that the suite holds -/
def rIsD (K : PySem.W.Frag) (cls : Value) (d : Option Addr) (a : Addr) : List V → Hp → VK → Prop := fun xs H Q => ∃ (D : Addr) (c : V) (cv : Value) (b : Bool) (dd : Addr) (fs : List (Str × V)), xs = [.ref a, c] ∧ (∀ u, RelV c u → u = cv) ∧ cls = .ref D ∧ ExcC K D ∧ d = some dd ∧ H dd = some (.xd fs) ∧ PySem.W.kitOne K (.ref D) cv = some b ∧ Q (.bl b) H
theorem call_isD {X : Cx} {a : Addr} {cls : Value} {d : Option Addr} {oe : Obj} {pn : List (Addr × Obj)} (hz : Zc cls d oe) (hf : ∃ vs, oe.data = .fields vs) : CallR (X.suite a ((a, oe) :: pn)) (.builtin "isinstance") (rIsD X.K cls d a) := by
  intro pins s σ H xs us Q I r h
  obtain ⟨D, c, cv, b, dd, fs, rfl, hcv, rfl, C, rfl, ed, e, q⟩ := h
  cases r with
  | cons rx rr =>
    cases rr with
    | cons rt rr =>
      cases rr
      cases rx
      have ec := hcv _ rt
      subst ec
      obtain ⟨hget, _⟩ := I.pin (a, oe) (List.mem_append.mpr (.inl List.mem_cons_self))
      obtain ⟨vs, hv⟩ := hf
      have hx : ObjOk X.prog X.w H s.heap dd (.xd fs) := I.hok dd _ ed
      obtain ⟨mA, hns, hr⟩ := hx
      obtain ⟨od, ho, hl⟩ := lookIn_ns hns
      have J : PySem.W.InstAt s.heap a oe D (some od) := ⟨hget, hz.1, by unfold PySem.W.notCls; rw [hv] <;> rfl, by rw [hz.2]; exact ho⟩
      exact PySem.W.kia_one (kitx_excD C) I.kIn J e (fun z => nomatch z) fun tk => ⟨.bl b, H, I.kept (t' := tk) fun _ _ z => z, rfl, q⟩
end KL
end
section
set_option Elab.async false
set_option linter.all false
set_option maxRecDepth 100000
/-! KA2: readings of expressions by the evaluator. -/
namespace KL
open PySem PySem.Spec PyProof.Rows L2

def Go {α : Type} (r : Rr α) (P : α → Rho → Prop) (X : PV → Rho → Prop) : Prop := match r with
  | .ok a ρ => P a ρ
  | .exc p ρ => X p ρ
  | .bad => False
theorem Go.bnd {α β : Type} {r : Rr α} {f : α → Rho → Rr β} {P : β → Rho → Prop} {X : PV → Rho → Prop} (h : Go (r.bnd f) P X) : Go r (fun a ρ => Go (f a ρ) P X) X := by
  cases r <;> exact h
theorem Go.mono {α : Type} {r : Rr α} {P P' : α → Rho → Prop} {X X' : PV → Rho → Prop} (h : Go r P X) (hp : ∀ a ρ, P a ρ → P' a ρ) (hx : ∀ p ρ, X p ρ → X' p ρ) : Go r P' X' := by
  cases r with
  | ok a ρ => exact hp _ _ h
  | exc p ρ => exact hx _ _ h
  | bad => exact h
theorem Go.of {α : Type} {o : Option α} {ρ : Rho} {P : α → Rho → Prop} {X : PV → Rho → Prop} (h : Go (Rr.of o ρ) P X) : ∃ a, o = some a ∧ P a ρ := by
  cases o with
  | none => exact h.elim
  | some a => exact ⟨a, rfl, h⟩

structure Pm where
  K : PySem.W.Frag
  ca : Nat → Addr
  cf : Nat → Str
def Exr (Θ : Pm) (F H : Hp) : PV → Value → Option Addr → Prop
  | .obj c [v], cls, d => cls = .ref (Θ.ca c) ∧ ∃ dd x, d = some dd ∧ H dd = some (.xd [(Θ.cf c, x)]) ∧ Rep Θ.K F v x
  | _, _, _ => False

section
variable {K : PySem.W.Frag} {P : List Nat} {B F F' H H' : Hp} {A A' : Ad} {T : List Addr} {ρ ρ' : Rho} {σ : L2.St} {a : Addr} {i : Nat}
theorem set_self {α : Type} : ∀ {l : List α} {i : Nat} {x : α}, l[i]? = some x → l.set i x = l
  | [], _, _, h => by simp at h
  | y :: l, 0, x, h => by simp at h; simp [h]
  | y :: l, i + 1, x, h => by
    simp only [List.set_cons_succ]
    rw [set_self (by simpa using h)]
theorem Sta.put (S : Sta K P B F H A ρ σ) (x : Evl.Ex F' H') (e : Evl.Ex F F') (n : ∀ j b, j ≠ i → b ∈ A j → F b = none → F' b = none) (h : ∀ j b, j ≠ i → b ∈ A j → ∀ u, H b = some u → H' b = some u)
    {s' : SV} {o' : Option V} {as' : List Addr} (hi : i < ρ.length) (ok : SlotOk K B F' H' s' o' as') (nd : as'.Nodup) (dj : ∀ j b, j ≠ i → b ∈ A j → b ∉ as') (nw : i ∉ P → ∀ b ∈ as', B b = none) (hm : ∀ a, B a ≠ none → H' a ≠ none) (np : ∀ v, s' = .own2 v → i ∉ P) :
    Sta K P B F' H' (setA A i as') (ρ.set i s') (σ.set i o') where
  ext := x
  len := by simpa using S.len
  ok := fun j s o h1 h2 => by
    by_cases hj : j = i
    · subst hj
      rw [List.getElem?_set_self hi] at h1
      rw [List.getElem?_set_self (by rw [← S.len]; exact hi)] at h2
      cases h1; cases h2
      unfold setA; rw [if_pos rfl]; exact ok
    · rw [List.getElem?_set_ne (Ne.symm hj)] at h1 h2
      unfold setA; rw [if_neg hj]
      exact (S.ok j s o h1 h2).on e (n j · hj) (h j · hj)
  out := fun j hj => by
    have hj' : ρ.length ≤ j := by simpa using hj
    unfold setA
    rw [if_neg (by omega)]; exact S.out j hj'
  nd := fun j => by
    unfold setA; split
    · exact nd
    · exact S.nd j
  dj := fun j k b h1 h2 => by
    unfold setA at h1 h2
    split at h1 <;> split at h2
    · rename_i e1 e2; exact e1.trans e2.symm
    · rename_i e1 e2; exact absurd h1 (dj k b e2 h2)
    · rename_i e1 e2; exact absurd h2 (dj j b e1 h1)
    · exact S.dj j k b h1 h2
  new := fun j hj b hb => by
    unfold setA at hb; split at hb
    · rename_i e; exact nw (e ▸ hj) b hb
    · exact S.new j hj b hb
  mono := hm
  np := fun j v hj => by
    by_cases e : j = i
    · subst e
      rw [List.getElem?_set_self hi] at hj
      exact np v (Option.some.inj hj)
    · rw [List.getElem?_set_ne (Ne.symm e)] at hj
      exact S.np j v hj
theorem Sta.lt (S : Sta K P B F H A ρ σ) {s : SV} (h : ρ[i]? = some s) : i < ρ.length := (List.getElem?_eq_some_iff.mp h).1
theorem Sta.at (S : Sta K P B F H A ρ σ) {s : SV} (h : ρ[i]? = some s) : ∃ o, σ[i]? = some o ∧ SlotOk K B F H s o (A i) := by
  have hi := S.lt h
  have h2 : σ[i]? = some (σ[i]'(by rw [← S.len]; exact hi)) := by simp
  exact ⟨_, h2, S.ok i s _ h h2⟩
theorem oa_set {as : List Addr} {b : Addr} (h : Oa (setA A i as) b) : b ∈ as ∨ ∃ j, j ≠ i ∧ b ∈ A j := by
  obtain ⟨j, hj⟩ := h
  unfold setA at hj
  split at hj
  · exact .inl hj
  · rename_i e; exact .inr ⟨j, e, hj⟩
theorem setA_ne {as : List Addr} {j : Nat} (h : j ≠ i) : setA A i as j = A j := by unfold setA; rw [if_neg h]
theorem setA_eq {as : List Addr} : setA A i as i = as := by unfold setA; rw [if_pos rfl]

/-- a slot's own list or dict comes to stand still -/
theorem Sta.frz1 (S : Sta K P B F H A ρ σ) {v : PV} (h : ρ[i]? = some (.own v)) :
    ∃ F' x, σ[i]? = some (some x) ∧ Rep K F' v x ∧ Sta K P B F' H (setA A i []) (ρ.set i (.shr v)) σ ∧ Frm F H A F' H (setA A i []) [] := by
  obtain ⟨o, h2, ok⟩ := S.at h
  obtain ⟨a, ha, rfl, hF, hc⟩ := ok
  obtain ⟨u, hu⟩ := hc.there
  have e : Evl.Ex F (upd F a u) := Evl.Ex.new hF
  have hr : Rep K (upd F a u) v (.ref a) := by
    cases v with
    | lst xs =>
      obtain ⟨vs, q1, q2⟩ := hc
      rw [hu] at q1; cases q1
      simp only [Rep]; exact ⟨a, vs, rfl, upd_same, q2.mono e⟩
    | dct xs =>
      obtain ⟨vs, q1, q2⟩ := hc
      rw [hu] at q1; cases q1
      simp only [Rep]; exact ⟨a, vs, rfl, upd_same, q2.mono e⟩
    | _ => exact hc.elim
  have nea : ∀ j b, j ≠ i → b ∈ A j → b ≠ a := fun j b hj hb e => hj (S.dj j i b hb (by rw [ha, e]; simp))
  refine ⟨upd F a u, .ref a, h2, hr, ?_, ?_⟩
  · have q := S.put (F' := upd F a u) (H' := H) (i := i) (s' := .shr v) (o' := some (.ref a)) (as' := []) (fun b w q => ?_) e (fun j b hj hb q => ?_) (fun _ _ _ _ _ q => q) (S.lt h) ⟨rfl, _, rfl, hr⟩ List.nodup_nil (fun _ _ _ _ z => nomatch z) (fun _ _ z => nomatch z) S.mono (fun _ z => nomatch z)
    · rwa [set_self h2] at q
    · by_cases hb : b = a
      · subst hb; rw [upd_same] at q; cases q; exact hu
      · rw [upd_ne hb] at q; exact S.ext b w q
    · rw [upd_ne (nea j b hj hb)]; exact q
  · refine ⟨e, fun b w h1 h2 h3 => ⟨?_, h2⟩, fun b q => ?_, (fun _ z => nomatch z), fun _ q => q⟩
    · rw [upd_ne]; exact h1
      rintro rfl; exact h3 ⟨i, by rw [ha]; simp⟩
    · rcases oa_set q with q | ⟨j, _, q⟩
      · cases q
      · exact .inl ⟨j, q⟩
/-- lists of one's own come to stand still, one after another -/
def updAll (F H : Hp) : List Addr → Hp
  | [] => F
  | b :: bs => match H b with
    | some u => upd (updAll F H bs) b u
    | none => updAll F H bs
theorem updAll_out {H : Hp} {b : Addr} : ∀ {bs : List Addr}, b ∉ bs → updAll F H bs b = F b
  | [], _ => rfl
  | c :: cs, h => by
    have h1 : b ≠ c := fun e => h (by simp [e])
    have h2 : b ∉ cs := fun e => h (by simp [e])
    unfold updAll
    cases H c with
    | none => exact updAll_out h2
    | some u => show upd _ c u b = _; rw [upd_ne h1]; exact updAll_out h2
theorem updAll_in {H : Hp} {b : Addr} : ∀ {bs : List Addr}, b ∈ bs → (∀ c ∈ bs, ∃ u, H c = some u) → updAll F H bs b = H b
  | [], h, _ => nomatch h
  | c :: cs, h, ht => by
    unfold updAll
    obtain ⟨u, hu⟩ := ht c (by simp)
    rw [hu]
    show upd _ c u b = _
    by_cases e : b = c
    · subst e; rw [upd_same, hu]
    · rw [upd_ne e]
      exact updAll_in ((List.mem_cons.mp h).resolve_left e) fun d hd => ht d (by simp [hd])
theorem updAll_ex {H : Hp} {bs : List Addr} (h : ∀ b ∈ bs, F b = none) : Evl.Ex F (updAll F H bs) := fun b u q => by
  rw [updAll_out]; exact q
  intro z; rw [h b z] at q; cases q
theorem updAll_ext {H : Hp} {bs : List Addr} (e : Evl.Ex F H) (ht : ∀ c ∈ bs, ∃ u, H c = some u) : Evl.Ex (updAll F H bs) H := fun b u q => by
  by_cases hb : b ∈ bs
  · rw [updAll_in hb ht] at q; exact q
  · rw [updAll_out hb] at q; exact e b u q
theorem cont2_rep {v : PV} {bs : List Addr} (c : Cont2 K F H a bs v) (hF : ∀ b ∈ a :: bs, F b = none) : Rep K (updAll F H (a :: bs)) v (.ref a) ∧ New2 (fun _ => none) (updAll F H (a :: bs)) a := by
  have e := updAll_ex (H := H) hF
  have ht := c.there
  cases v with
  | lst ys =>
    obtain ⟨h1, h2⟩ := c
    have top : updAll F H (a :: bs) a = some (.lst (bs.map V.ref)) := by rw [updAll_in (by simp) ht, h1]
    refine ⟨?_, rfl, _, top, fun w hw => ?_⟩
    · simp only [Rep]
      refine ⟨a, _, rfl, top, ?_⟩
      have hin : ∀ b ∈ bs, updAll F H (a :: bs) b = H b := fun b hb => updAll_in (by simp [hb]) ht
      revert e hin
      generalize updAll F H (a :: bs) = G
      intro e hin
      clear top h1 ht hF
      induction h2 with
      | nil => exact .nil
      | cons p q ih =>
        obtain ⟨⟨zs, rfl⟩, vs, q1, q2⟩ := p
        refine .cons ?_ (ih fun b hb => hin b (by simp [hb]))
        simp only [Rep]
        exact ⟨_, vs, rfl, by rw [hin _ (by simp)]; exact q1, q2.mono e⟩
    · obtain ⟨b, hb, rfl⟩ := List.mem_map.mp hw
      have : ∃ zs, H b = some (.lst zs) := by
        clear top h1 ht hF hw e
        induction h2 with
        | nil => cases hb
        | cons p q ih =>
          rcases List.mem_cons.mp hb with rfl | hb
          · obtain ⟨⟨zs, rfl⟩, vs, q1, q2⟩ := p
            exact ⟨vs, q1⟩
          · exact ih hb
      obtain ⟨zs, q⟩ := this
      exact ⟨b, zs, rfl, rfl, by rw [updAll_in (by simp [hb]) ht, q]⟩
  | _ => exact c.elim
theorem Sta.frz2 (S : Sta K P B F H A ρ σ) {v : PV} (h : ρ[i]? = some (.own2 v)) :
    ∃ F' x, σ[i]? = some (some x) ∧ Rep K F' v x ∧ Sta K P B F' H (setA A i []) (ρ.set i (.frz2 v)) σ ∧ Frm F H A F' H (setA A i []) [] := by
  obtain ⟨o, h2, ok⟩ := S.at h
  obtain ⟨a, bs, ha, rfl, hF, hc⟩ := ok
  have ht := hc.there
  obtain ⟨hr, hn⟩ := cont2_rep hc hF
  have e : Evl.Ex F (updAll F H (a :: bs)) := updAll_ex hF
  have nea : ∀ j b, j ≠ i → b ∈ A j → b ∉ a :: bs := fun j b hj hb z => hj (S.dj j i b hb (by rw [ha]; exact z))
  have hB := S.new i (S.np i v h)
  rw [ha] at hB
  have hn2 : New2 B (updAll F H (a :: bs)) a := by
    obtain ⟨_, vs, q1, q2⟩ := hn
    refine ⟨hB a (by simp), vs, q1, fun w hw => ?_⟩
    obtain ⟨b, zs, e1, _, e3⟩ := q2 w hw
    refine ⟨b, zs, e1, hB b ?_, e3⟩
    rw [updAll_in (by simp) ht] at q1
    cases v with
    | lst ys =>
      obtain ⟨c1, _⟩ := hc
      rw [c1] at q1; cases q1
      obtain ⟨b', hb', e4⟩ := List.mem_map.mp hw
      rw [e1] at e4; cases e4
      simp [hb']
    | _ => exact hc.elim
  refine ⟨_, .ref a, h2, hr, ?_, ?_⟩
  · have q := S.put (F' := updAll F H (a :: bs)) (H' := H) (i := i) (s' := .frz2 v) (o' := some (.ref a)) (as' := []) (updAll_ext S.ext ht) e (fun j b hj hb q => by rw [updAll_out (nea j b hj hb)]; exact q) (fun _ _ _ _ _ q => q) (S.lt h) ⟨rfl, a, rfl, hr, hn2⟩ List.nodup_nil (fun _ _ _ _ z => nomatch z) (fun _ _ z => nomatch z) S.mono (fun _ z => nomatch z)
    rwa [set_self h2] at q
  · refine ⟨e, fun b w h1 h2 h3 => ⟨?_, h2⟩, fun b q => ?_, (fun _ z => nomatch z), fun _ q => q⟩
    · rw [updAll_out]; exact h1
      intro z; exact h3 ⟨i, by rw [ha]; exact z⟩
    · rcases oa_set q with q | ⟨j, _, q⟩
      · cases q
      · exact .inl ⟨j, q⟩
end

/-! ### readings -/
section
variable (Θ : Pm) (g : Gm)
def okE (P : List Nat) (B F H : Hp) (A : Ad) (σ : L2.St) (Q : VK) (o : Opd) (ρ' : Rho) : Prop := ∀ x F' H' A' T, Sta Θ.K P B F' H' A' ρ' σ → Frm F H A F' H' A' T → TOk A' F' H' T → Res Θ.K F' H' σ o x T → Q x H'
def ResO (F : Hp) (σ : L2.St) : Opd → V → Prop
  | .ref i, x => σ[i]? = some (some x)
  | .imm s, x => Rep Θ.K F s.val x
def okO (P : List Nat) (B F H : Hp) (A : Ad) (σ : L2.St) (Q : VK) (o : Opd) (ρ' : Rho) : Prop := ∀ x F' H' A', Sta Θ.K P B F' H' A' ρ' σ → Frm F H A F' H' A' [] → ResO Θ F' σ o x → Q x H'
def exE (P : List Nat) (B F H : Hp) (A : Ad) (σ : L2.St) (W : WX) (p : PV) (ρ' : Rho) : Prop := ∀ c d F' H' A', Sta Θ.K P B F' H' A' ρ' σ → Frm F H A F' H' A' [] → Exr Θ F' H' p c d → W c d σ H'
def tG (r : Rho → Rr Opd) (P : List Nat) (W : WX) : TE := fun σ H Q => ∃ B F A ρ, Sta Θ.K P B F H A ρ σ ∧ Go (r ρ) (okE Θ P B F H A σ Q) (exE Θ P B F H A σ W)
def tO (r : Rho → Rr Opd) (P : List Nat) (W : WX) : TE := fun σ H Q => ∃ B F A ρ, Sta Θ.K P B F H A ρ σ ∧ Go (r ρ) (okO Θ P B F H A σ Q) (exE Θ P B F H A σ W)
/-- as a test -/
def okT (P : List Nat) (B F H : Hp) (A : Ad) (σ : L2.St) (Q : Bool → Hp → Prop) (o : Opd) (ρ' : Rho) : Prop := ∀ F' H' A', Sta Θ.K P B F' H' A' ρ' σ → Frm F H A F' H' A' [] → Q o.tru H'
def tT (r : Rho → Rr Opd) (P : List Nat) (W : WX) : TT := fun σ H Q => ∃ B F A ρ, Sta Θ.K P B F H A ρ σ ∧ Go (r ρ) (okT Θ P B F H A σ Q) (exE Θ P B F H A σ W)
end
section
variable {Θ : Pm} {g : Gm} {P : List Nat} {W : WX} {X : Cx} {x : Expr} {B F F' F1 H H' H1 : Hp} {A A' A1 : Ad} {T : List Addr} {ρ ρ' : Rho} {σ : L2.St} {a : Addr} {i : Nat} {o : Opd} {v : V}
theorem PE.weak {t t' : TE} (h : PE X x t) (w : ∀ σ H Q, t' σ H Q → t σ H Q) : PE X x t' := ⟨fun pins s σ H Q I q => h.run pins s σ H Q I (w _ _ _ q)⟩
theorem PT.weak {t t' : TT} (h : PT X x t) (w : ∀ σ H Q, t' σ H Q → t σ H Q) : PT X x t' := ⟨fun pins s σ H Q I q => h.run pins s σ H Q I (w _ _ _ q)⟩
/-- a result's own comes to stand still -/
theorem Res.frz (S : Sta Θ.K P B F' H' A' ρ' σ) (f : Frm F H A F' H' A' T) (t : TOk A' F' H' T) (r : Res Θ.K F' H' σ o v T) :
    ∃ F2, Sta Θ.K P B F2 H' A' ρ' σ ∧ Frm F H A F2 H' A' [] ∧ Evl.Ex F' F2 ∧ ResO Θ F2 σ o v := by
  cases o with
  | ref i =>
    obtain ⟨rfl, r⟩ := r
    exact ⟨F', S, f, Evl.Ex.refl _, r⟩
  | imm s =>
    cases s with
    | shr p =>
      obtain ⟨rfl, r⟩ := r
      exact ⟨F', S, f, Evl.Ex.refl _, r⟩
    | own p =>
      obtain ⟨b, rfl, rfl, c⟩ := r
      obtain ⟨u, hu⟩ := c.there
      obtain ⟨S2, t2, e2⟩ := freeze S t hu
      refine ⟨_, S2, f.freeze hu (t.no b (by simp)), e2, ?_⟩
      show Rep Θ.K _ p _
      cases p with
      | lst xs =>
        obtain ⟨vs, q1, q2⟩ := c
        rw [hu] at q1; cases q1
        simp only [Rep]; exact ⟨b, vs, rfl, upd_same, q2.mono e2⟩
      | dct xs =>
        obtain ⟨vs, q1, q2⟩ := c
        rw [hu] at q1; cases q1
        simp only [Rep]; exact ⟨b, vs, rfl, upd_same, q2.mono e2⟩
      | _ => exact c.elim
    | own2 p =>
      obtain ⟨b, bs, rfl, rfl, c⟩ := r
      obtain ⟨hr, _⟩ := cont2_rep c t.no
      have ht := c.there
      have e := updAll_ex (H := H') t.no
      refine ⟨_, S.on (updAll_ext S.ext ht) e (fun c hc q => ?_) (fun _ _ _ q => q) S.mono, ⟨f.ext.trans e, fun c w h1 h2 h3 => ?_, f.own, (fun _ z => nomatch z), f.fre⟩, e, hr⟩
      · rw [updAll_out]; exact q
        intro z; exact t.ap c z hc
      · obtain ⟨k1, k2⟩ := f.keep c w h1 h2 h3
        refine ⟨?_, k2⟩
        rw [updAll_out]; exact k1
        intro z
        rw [f.tn c z] at h2; cases h2
    | un => exact r.elim
    | frz2 _ => exact r.elim
theorem tO_tG {r : Rho → Rr Opd} {Q : VK} (h : tO Θ r P W σ H Q) : tG Θ r P W σ H Q := by
  obtain ⟨B, F, A, ρ, S, h⟩ := h
  refine ⟨B, F, A, ρ, S, h.mono (fun o ρ' k x F' H' A' T S' f t r => ?_) fun _ _ k => k⟩
  obtain ⟨F2, S2, f2, _, r2⟩ := Res.frz S' f t r
  exact k x F2 H' A' S2 f2 r2
theorem PE.opd {r : Rho → Rr Opd} (h : PE X x (tG Θ r P W)) : PE X x (tO Θ r P W) := PE.weak h fun _ _ _ q => tO_tG q

/-- what an operand stands for, its top as the heap has it -/
def Tp (F H : Hp) : PV → V → Prop
  | .lst xs, x => ∃ a vs, x = .ref a ∧ H a = some (.lst vs) ∧ Reps Θ.K F xs vs
  | .dct kvs, x => ∃ a ks, x = .ref a ∧ H a = some (.dK ks) ∧ RepD Θ.K F kvs ks
  | p, x => Rep Θ.K F p x
theorem Tp.of {p : PV} (e : Evl.Ex F H) (h : Rep Θ.K F p v) : Tp (Θ := Θ) F H p v := by
  cases p with
  | lst xs => simp only [Rep] at h; obtain ⟨a, vs, e1, h1, h2⟩ := h; exact ⟨a, vs, e1, e _ _ h1, h2⟩
  | dct xs => simp only [Rep] at h; obtain ⟨a, vs, e1, h1, h2⟩ := h; exact ⟨a, vs, e1, e _ _ h1, h2⟩
  | _ => exact h
theorem Tp.cont {p : PV} (h : Cont Θ.K F H a p) : Tp (Θ := Θ) F H p (.ref a) := by
  cases p with
  | lst xs => obtain ⟨vs, h1, h2⟩ := h; exact ⟨a, vs, rfl, h1, h2⟩
  | dct xs => obtain ⟨vs, h1, h2⟩ := h; exact ⟨a, vs, rfl, h1, h2⟩
  | _ => exact h.elim
/-- behind further runs -/
theorem ResO.tp {p : PV} (r : ResO Θ F σ o v) (e : Evl.Ex F F1) (S : Sta Θ.K P B F1 H1 A1 ρ' σ) (hg : o.get ρ' = some p) : Tp (Θ := Θ) F1 H1 p v := by
  cases o with
  | imm s =>
    have hp : s.val = p := Option.some.inj hg
    rw [← hp]
    exact Tp.of S.ext (Rep.mono e r)
  | ref i =>
    have r' : σ[i]? = some (some v) := r
    have hg : (match ρ'[i]? with
      | some (.shr v) => some v
      | some (.own v) => some v
      | some (.frz2 v) => some v
      | _ => none) = some p := hg
    cases hs : ρ'[i]? with
    | none => rw [hs] at hg; cases hg
    | some s =>
      rw [hs] at hg
      obtain ⟨u, hu, ok⟩ := S.at hs
      rw [r'] at hu; cases hu
      cases s with
      | un => cases hg
      | shr q => cases hg; obtain ⟨_, y, hy, hr⟩ := ok; cases hy; exact Tp.of S.ext hr
      | own q => cases hg; obtain ⟨b, _, hy, _, hc⟩ := ok; cases hy; exact Tp.cont hc
      | own2 q => cases hg
      | frz2 q => cases hg; obtain ⟨_, b, hy, hr, _⟩ := ok; cases hy; exact Tp.of S.ext hr
/-- a result is handed on: what stands still, a new list, tuple or dict -/
def Mk (F H : Hp) (s : SV) (Q : VK) : Prop := (∀ z, Rep Θ.K F s.val z → (∃ v, s = .shr v) → Q z H) ∧ match s with
  | .shr (.tup xs) => ∀ p vs, H p = none → Reps Θ.K F xs vs → Q (.ref p) (upd H p (.tup vs))
  | .own (.lst xs) => ∀ p vs, H p = none → Reps Θ.K F xs vs → Q (.ref p) (upd H p (.lst vs))
  | .own (.dct xs) => ∀ p ks, H p = none → RepD Θ.K F xs ks → Q (.ref p) (upd H p (.dK ks))
  | _ => True
theorem Mk.of {s : SV} {Q : VK} (S : Sta Θ.K P B F' H' A' ρ' σ) (f : Frm F H A F' H' A' []) (k : okE Θ P B F H A σ Q (.imm s) ρ') : Mk (Θ := Θ) F' H' s Q := by
  refine ⟨fun z hz ⟨v, hv⟩ => ?_, ?_⟩
  · subst hv
    exact k z F' H' A' [] S f TOk.nil ⟨rfl, hz⟩
  · split
    · intro p vs hp hr
      have hF := S.freshF hp
      refine k (.ref p) (upd F' p (.tup vs)) (upd H' p (.tup vs)) A' [] (S.newF hp) (f.trans (Frm.newF hp hF)) TOk.nil ⟨rfl, ?_⟩
      simp only [Rep]
      exact ⟨p, vs, rfl, SqT.of upd_same, hr.mono (Evl.Ex.new hF)⟩
    · intro p vs hp hr
      exact k (.ref p) F' (upd H' p (.lst vs)) A' [p] (S.newH hp) (f.trans (Frm.newH hp)) (TOk.newH S hp) ⟨p, rfl, rfl, vs, upd_same, hr⟩
    · intro p vs hp hr
      exact k (.ref p) F' (upd H' p (.dK vs)) A' [p] (S.newH hp) (f.trans (Frm.newH hp)) (TOk.newH S hp) ⟨p, rfl, rfl, vs, upd_same, hr⟩
    · trivial
end
end KL
end
section
set_option Elab.async false
set_option linter.all false
set_option maxRecDepth 100000
/-! KA3: names, operators, tests. -/
namespace KL
open PySem PySem.Spec PyProof.Rows L2
/-- a value's run as an expression's -/
def vR (r : Rho → Rr SV) (ρ : Rho) : Rr Opd := (r ρ).bnd fun v ρ => .ok (.imm v) ρ
section
variable {Θ : Pm} {g : Gm} {P : List Nat} {W : WX} {X : Cx} {x : Expr} {B F F' F1 H H' H1 : Hp} {A A' A1 : Ad} {T : List Addr} {ρ ρ' : Rho} {σ : L2.St} {a : Addr} {i : Nat} {o : Opd} {v : V} {pos : Pos}

theorem truV_of (hK : X.K = Θ.K) {p : PV} {b : Bool} (t : Tp (Θ := Θ) F H p v) (e : Evl.Ex F H) (h : truthP p = some b) : TruV X.K v H b := by
  cases p with
  | non => have t : v = .non := by simpa [Tp, Rep] using t
           subst t; have h : false = b := Option.some.inj h
           exact h.symm
  | bl c => have t : v = .bl c := by simpa [Tp, Rep] using t
            subst t; have h : c = b := Option.some.inj h
            exact h.symm
  | int i => have t : v = .int i := by simpa [Tp, Rep] using t
             subst t; have h : decide (i ≠ 0) = b := Option.some.inj h
             show b = (i != 0)
             rw [← h]; by_cases q : i = 0 <;> simp [q]
  | lst xs => obtain ⟨a, vs, rfl, h1, h2⟩ := t
              have h : (!xs.isEmpty) = b := Option.some.inj h
              refine .inl ⟨vs, SqL.of h1, ?_⟩
              rw [← h]
              have := h2.len
              cases xs <;> cases vs <;> simp_all
  | tup xs => have t : Rep Θ.K F (.tup xs) v := t
              simp only [Rep] at t
              obtain ⟨a, vs, rfl, h1, h2⟩ := t
              have h : (!xs.isEmpty) = b := Option.some.inj h
              refine .inr (.inl ⟨vs, by rw [hK]; exact Evl.ex_t e h1, ?_⟩)
              rw [← h]
              have := h2.len
              cases xs <;> cases vs <;> simp_all
  | dct xs => obtain ⟨a, ks, rfl, h1, h2⟩ := t
              have h : (!xs.isEmpty) = b := Option.some.inj h
              refine .inr (.inr ⟨ks, h1, ?_⟩)
              rw [← h]
              cases xs with
              | nil => simp only [RepD] at h2; subst h2; rfl
              | cons p r => obtain ⟨k, q⟩ := p; simp only [RepD] at h2; obtain ⟨_, _, _, rfl, _⟩ := h2; rfl
  | _ => cases h
/-- the truth of a value -/
theorem pt_fin {r : Rho → Rr SV} (hK : X.K = Θ.K) (h : PE X x (tG Θ (vR r) P W)) (he : ∀ whole, isTrue x X.env whole = (do let v ← whole; standAt x.pos; holding [v] (truthy v))) : PT X x (tT Θ (fun ρ => finM .tst (r ρ)) P W) := by
  refine PT.weak (pt_truth h he) fun σ H Q q => ?_
  obtain ⟨B, F, A, ρ, S, q⟩ := q
  refine ⟨B, F, A, ρ, S, ?_⟩
  have q := Go.bnd q
  unfold vR
  cases hr : r ρ with
  | bad => rw [hr] at q; exact q.elim
  | exc p ρ' => rw [hr] at q; exact q
  | ok s ρ' =>
    rw [hr] at q
    obtain ⟨o, ho, q⟩ := Go.of (show Go (Rr.of ((truthP s.val).map fun b => Opd.imm (.shr (.bl b))) ρ') _ _ from q)
    cases hb : truthP s.val with
    | none => rw [hb] at ho; cases ho
    | some b =>
      rw [hb] at ho; cases ho
      show okE Θ P B F H A σ _ (.imm s) ρ'
      intro y F' H' A' T S' f t res
      obtain ⟨F2, S2, f2, e2, r2⟩ := Res.frz S' f t res
      exact ⟨b, truV_of hK (Tp.of S2.ext r2) S2.ext hb, q F2 H' A' S2 f2⟩

/-! ### names -/
theorem pe_val {nm : Str} (hN : X.N[i]? = some nm) (hv : Vis X.env.scope nm) (hd : (nm == ("__debug__" : Str)) = false) (hcd : (nm == ("__classdict__" : Str)) = false) : PE X (.Name nm pos) (tG Θ (askV .val i) P W) := by
  refine PE.weak (pe_var (i := i) hN hv hd hcd) fun σ H Q q => ?_
  obtain ⟨B, F, A, ρ, S, q⟩ := q
  have q := Go.bnd (show Go ((readV i ρ).bnd fun v ρ => Rr.ok (Opd.imm v) ρ) _ _ from q)
  unfold readV at q
  cases hs : ρ[i]? with
  | none => rw [hs] at q; exact q.elim
  | some s =>
    rw [hs] at q
    cases s with
    | un => exact q.elim
    | shr p =>
      obtain ⟨u, hu, _, y, hy, hr⟩ := S.at hs
      subst hy
      exact ⟨y, hu, (show okE Θ P B F H A σ Q (.imm (.shr p)) ρ from q) y F H A [] S (Frm.refl _ _ _) TOk.nil ⟨rfl, hr⟩⟩
    | frz2 p =>
      obtain ⟨u, hu, _, y, hy, hr, _⟩ := S.at hs
      subst hy
      exact ⟨_, hu, (show okE Θ P B F H A σ Q (.imm (.shr p)) ρ from q) _ F H A [] S (Frm.refl _ _ _) TOk.nil ⟨rfl, hr⟩⟩
    | own p =>
      obtain ⟨F', y, hu, hr, S', f⟩ := S.frz1 hs
      exact ⟨y, hu, (show okE Θ P B F H A σ Q (.imm (.shr p)) (ρ.set i (.shr p)) from q) y F' H _ [] S' f TOk.nil ⟨rfl, hr⟩⟩
    | own2 p =>
      obtain ⟨F', y, hu, hr, S', f⟩ := S.frz2 hs
      exact ⟨y, hu, (show okE Θ P B F H A σ Q (.imm (.shr p)) (ρ.set i (.frz2 p)) from q) y F' H _ [] S' f TOk.nil ⟨rfl, hr⟩⟩
theorem pe_opd {nm : Str} (hN : X.N[i]? = some nm) (hv : Vis X.env.scope nm) (hd : (nm == ("__debug__" : Str)) = false) (hcd : (nm == ("__classdict__" : Str)) = false) : PE X (.Name nm pos) (tG Θ (askV .opd i) P W) := by
  refine PE.weak (pe_var (i := i) hN hv hd hcd) fun σ H Q q => ?_
  obtain ⟨B, F, A, ρ, S, q⟩ := q
  have q : Go (peekV i ρ) (okE Θ P B F H A σ Q) (exE Θ P B F H A σ W) := q
  unfold peekV at q
  cases hs : ρ[i]? with
  | none => rw [hs] at q; exact q.elim
  | some s =>
    rw [hs] at q
    cases s with
    | un => exact q.elim
    | shr p =>
      obtain ⟨u, hu, _, y, hy, hr⟩ := S.at hs
      subst hy
      exact ⟨y, hu, (show okE Θ P B F H A σ Q (.ref i) ρ from q) y F H A [] S (Frm.refl _ _ _) TOk.nil ⟨rfl, hu⟩⟩
    | frz2 p =>
      obtain ⟨u, hu, _, y, hy, hr, _⟩ := S.at hs
      subst hy
      exact ⟨_, hu, (show okE Θ P B F H A σ Q (.ref i) ρ from q) _ F H A [] S (Frm.refl _ _ _) TOk.nil ⟨rfl, hu⟩⟩
    | own p =>
      obtain ⟨u, hu, y, _, hy, _⟩ := S.at hs
      subst hy
      exact ⟨_, hu, (show okE Θ P B F H A σ Q (.ref i) ρ from q) _ F H A [] S (Frm.refl _ _ _) TOk.nil ⟨rfl, hu⟩⟩
    | own2 p =>
      obtain ⟨F', y, hu, hr, S', f⟩ := S.frz2 hs
      exact ⟨y, hu, (show okE Θ P B F H A σ Q (.ref i) (ρ.set i (.frz2 p)) from q) y F' H _ [] S' f TOk.nil ⟨rfl, hu⟩⟩
theorem pt_name {nm : Str} (hK : X.K = Θ.K) (hN : X.N[i]? = some nm) (hv : Vis X.env.scope nm) (hd : (nm == ("__debug__" : Str)) = false) (hcd : (nm == ("__classdict__" : Str)) = false) : PT X (.Name nm pos) (tT Θ (askV .tst i) P W) := by
  refine PT.weak (pt_truth (PE.opd (pe_opd (Θ := Θ) (P := P) (W := W) hN hv hd hcd)) fun _ => rfl) fun σ H Q q => ?_
  obtain ⟨B, F, A, ρ, S, q⟩ := q
  refine ⟨B, F, A, ρ, S, ?_⟩
  have q := Go.bnd (show Go ((peekV i ρ).bnd fun o ρ => match o.get ρ with
    | some v => Rr.of ((truthP v).map fun b => Opd.imm (.shr (.bl b))) ρ
    | none => .bad) _ _ from q)
  refine Go.mono (show Go (peekV i ρ) _ _ from q) (fun o ρ' k y F' H' A' S' f r => ?_) fun _ _ k => k
  cases hg : o.get ρ' with
  | none => rw [hg] at k; exact k.elim
  | some p =>
    rw [hg] at k
    obtain ⟨o', ho, k⟩ := Go.of k
    cases hb : truthP p with
    | none => rw [hb] at ho; cases ho
    | some b =>
      rw [hb] at ho; cases ho
      exact ⟨b, truV_of hK (ResO.tp r (Evl.Ex.refl _) S' hg) S'.ext hb, k F' H' A' S' f⟩

/-! ### constants -/
theorem pe_cst {p : PV} {w : V} (h : PE X x (tC w)) (hp : Rep Θ.K (fun _ => none) p w) : PE X x (tG Θ (vR fun ρ => if scalar p then .ok (.shr p) ρ else .bad) P W) := by
  refine PE.weak h fun σ H Q q => ?_
  obtain ⟨B, F, A, ρ, S, q⟩ := q
  have q := Go.bnd q
  cases hs : scalar p with
  | false => rw [hs] at q; exact q.elim
  | true =>
    rw [hs] at q
    exact (show okE Θ P B F H A σ Q (.imm (.shr p)) ρ from q) w F H A [] S (Frm.refl _ _ _) TOk.nil ⟨rfl, hp.mono (fun a u z => by cases (show (none : Option HO) = some u from z))⟩

/-! ### two operands -/
def r2V (f : PV → PV → Option SV) (ra rb : Rho → Rr Opd) (ρ : Rho) : Rr SV := (ra ρ).bnd fun x ρ => (rb ρ).bnd fun y ρ => match x.get ρ, y.get ρ with
  | some x, some y => Rr.of (f x y) ρ
  | _, _ => .bad
/-- by values -/
def rB (Θ : Pm) (f : PV → PV → Option SV) : R2 := fun x y H Q => ∃ F p q s, Evl.Ex F H ∧ Tp (Θ := Θ) F H p x ∧ Tp (Θ := Θ) F H q y ∧ f p q = some s ∧ Mk (Θ := Θ) F H s Q
theorem t2V {f : PV → PV → Option SV} {ra rb : Rho → Rr Opd} {Q : VK} (h : tG Θ (vR (r2V f ra rb)) P W σ H Q) : tOp (rB Θ f) (tO Θ ra P W) (tO Θ rb P W) σ H Q := by
  obtain ⟨B, F, A, ρ, S, q⟩ := h
  have q := Go.bnd (Go.bnd q)
  refine ⟨B, F, A, ρ, S, q.mono (fun o1 ρ1 k1 y1 F1 H1 A1 S1 f1 r1 => ?_) fun _ _ k => k⟩
  have k1 := Go.bnd k1
  refine ⟨B, F1, A1, ρ1, S1, k1.mono (fun o2 ρ2 k2 y2 F2 H2 A2 S2 f2 r2 => ?_) fun p ρ' k c d F' H' A' S' f' er => ?_⟩
  · cases h1 : o1.get ρ2 with
    | none => rw [h1] at k2; exact k2.elim
    | some p =>
      cases h2 : o2.get ρ2 with
      | none => rw [h1, h2] at k2; exact k2.elim
      | some p2 =>
        rw [h1, h2] at k2
        obtain ⟨s, hs, k2⟩ := Go.of k2
        exact ⟨F2, p, p2, s, S2.ext, ResO.tp r1 f2.ext S2 h1, ResO.tp r2 (Evl.Ex.refl _) S2 h2, hs, Mk.of S2 (f1.trans f2) k2⟩
  · exact k c d F' H' A' S' (f1.trans f') er
/-- from the rule by values -/
theorem bin_ok {f : PV → PV → Option SV} {op : Operator} {a b : Expr} {ra rb : Rho → Rr Opd} (ho : OpR X (binaryOp op) (rB Θ f)) (ha : PE X a (tO Θ ra P W)) (hb : PE X b (tO Θ rb P W)) : PE X (.BinOp a op b pos) (tG Θ (vR (r2V f ra rb)) P W) :=
  PE.weak (pe_op ho ha hb) fun _ _ _ q => t2V q
theorem cmp_ok {f : PV → PV → Option SV} {op : CmpOp} {a b : Expr} {ra rb : Rho → Rr Opd} (ho : OpR X (compareOp op) (rB Θ f)) (ha : PE X a (tO Θ ra P W)) (hb : PE X b (tO Θ rb P W)) (hm : behindInMarks op b = false) : PE X (.Compare a [op] [b] pos) (tG Θ (vR (r2V f ra rb)) P W) :=
  PE.weak (pe_cmpR ho ha hb hm) fun _ _ _ q => t2V q
theorem ix_ok {f : PV → PV → Option SV} {a b : Expr} {ra rb : Rho → Rr Opd} (ho : IxR X (rB Θ f)) (ha : PE X a (tO Θ ra P W)) (hb : PE X b (tO Θ rb P W)) (hs : PlainIx b) : PE X (.Subscript a b pos) (tG Θ (vR (r2V f ra rb)) P W) :=
  PE.weak (pe_ix ho ha hb hs) fun _ _ _ q => t2V q
theorem OpR.weak {f : Value → Value → Sem Value} {r r' : R2} (h : OpR X f r) (w : ∀ x y H Q, r' x y H Q → r x y H Q) : OpR X f r' := fun pins s σ H x y v u Q I r1 r2 q => h pins s σ H x y v u Q I r1 r2 (w _ _ _ _ q)
theorem IxR.weak {r r' : R2} (h : IxR X r) (w : ∀ x y H Q, r' x y H Q → r x y H Q) : IxR X r' := fun a b pins s σ H x y v u Q I r1 r2 q => h a b pins s σ H x y v u Q I r1 r2 (w _ _ _ _ q)

theorem tp_int {n : Int} (h : Tp (Θ := Θ) F H (.int n) v) : v = .int n := by simpa [Tp, Rep] using h
theorem rep_int {n : Int} : Rep Θ.K F (.int n) (.int n) := by simp [Rep]
theorem rep_bl {b : Bool} : Rep Θ.K F (.bl b) (.bl b) := by simp [Rep]
theorem big_eq : big = sizeLine := rfl
/-! #### arithmetic -/
theorem op_bop (o : Bop) : OpR X (binaryOp (match o with | .add => .Add | .sub => .Sub | .mul => .Mult | .mod => .Mod | .fdiv => .FloorDiv | .pow => .Pow)) (rB Θ (bopPV o)) := by
  cases o with
  | add =>
    refine OpR.weak (OpR.or op_add op_cat) fun x y H Q ⟨F, p, q, s, e, h1, h2, hs, k⟩ => ?_
    cases p with
    | int i =>
      cases q with
      | int j =>
        cases hs
        exact .inl ⟨i, j, tp_int h1, tp_int h2, k.1 _ rep_int ⟨_, rfl⟩⟩
      | _ => cases hs
    | lst xs =>
      cases q with
      | lst ys =>
        have hs : (if xs.length + ys.length ≤ big then some (SV.own (.lst (xs ++ ys))) else none) = some s := hs
        split at hs
        · rename_i hz
          cases hs
          obtain ⟨a, vs, rfl, q1, q2⟩ := h1
          obtain ⟨b, ws, rfl, q3, q4⟩ := h2
          refine .inr ⟨a, b, vs, ws, rfl, rfl, q1, q3, ?_, fun p hp => k.2 p _ hp (q2.append q4)⟩
          rw [← q2.len, ← q4.len]; exact hz
        · cases hs
      | _ => cases hs
    | _ => cases q <;> cases hs
  | sub =>
    refine OpR.weak op_sub fun x y H Q ⟨F, p, q, s, e, h1, h2, hs, k⟩ => ?_
    cases p with
    | int i =>
      cases q with
      | int j => cases hs; exact ⟨i, j, tp_int h1, tp_int h2, k.1 _ rep_int ⟨_, rfl⟩⟩
      | _ => cases hs
    | _ => cases q <;> cases hs
  | mul =>
    refine OpR.weak op_mul fun x y H Q ⟨F, p, q, s, e, h1, h2, hs, k⟩ => ?_
    cases p with
    | int i =>
      cases q with
      | int j =>
        have hs : (if (-(2 ^ 64) < i ∧ i < 2 ^ 64) ∨ (-(2 ^ 64) < j ∧ j < 2 ^ 64) then some (SV.shr (.int (i * j))) else none) = some s := hs
        split at hs
        · rename_i hz; cases hs; exact ⟨i, j, tp_int h1, tp_int h2, hz, k.1 _ rep_int ⟨_, rfl⟩⟩
        · cases hs
      | _ => cases hs
    | _ => cases q <;> cases hs
  | mod =>
    refine OpR.weak op_mod fun x y H Q ⟨F, p, q, s, e, h1, h2, hs, k⟩ => ?_
    cases p with
    | int i =>
      cases q with
      | int j =>
        have hs : (if 0 < j then some (SV.shr (.int (i % j))) else none) = some s := hs
        split at hs
        · rename_i hz; cases hs; exact ⟨i, j, tp_int h1, tp_int h2, hz, k.1 _ rep_int ⟨_, rfl⟩⟩
        · cases hs
      | _ => cases hs
    | _ => cases q <;> cases hs
  | fdiv =>
    refine OpR.weak op_fdiv fun x y H Q ⟨F, p, q, s, e, h1, h2, hs, k⟩ => ?_
    cases p with
    | int i =>
      cases q with
      | int j =>
        have hs : (if 0 < j ∧ j < 1073741824 then some (SV.shr (.int (i / j))) else none) = some s := hs
        split at hs
        · rename_i hz; cases hs; exact ⟨i, j, tp_int h1, tp_int h2, hz, k.1 _ rep_int ⟨_, rfl⟩⟩
        · cases hs
      | _ => cases hs
    | _ => cases q <;> cases hs
  | pow =>
    refine OpR.weak op_pow fun x y H Q ⟨F, p, q, s, e, h1, h2, hs, k⟩ => ?_
    cases p with
    | int i =>
      cases q with
      | int j =>
        have hs : (if 0 ≤ j ∧ j ≤ 1000000 ∧ i.natAbs < 2 ^ 64 then some (SV.shr (.int (i ^ j.toNat))) else none) = some s := hs
        split at hs
        · rename_i hz; cases hs; exact ⟨i, j, tp_int h1, tp_int h2, hz, k.1 _ rep_int ⟨_, rfl⟩⟩
        · cases hs
      | _ => cases hs
    | _ => cases q <;> cases hs
end
end KL
end
section
set_option Elab.async false
set_option linter.all false
set_option maxRecDepth 100000
/-! KA4: comparisons of data, items, slices. -/
namespace KL
open PySem PySem.Spec PyProof.Rows L2

/-! ### data -/
mutual
def dat : PV → PyData
  | .non => .none | .bl b => .bool b | .int i => .int i | .str s => .str s
  | .lst xs => .list (dats xs) | .tup xs => .tuple (dats xs)
  | .dct _ => .none | .obj _ _ => .none | .scr _ => .none
def dats : List PV → List PyData
  | [] => []
  | x :: xs => dat x :: dats xs
end
mutual
theorem dat_lay : ∀ {n : Nat} {p : PV}, dOk n p = true → (dat p).canLay0 = true ∧ (dat p).depth ≤ n
  | n, .non, h => by simp [dat, PyData.canLay0, PyData.depth]
  | n, .bl b, h => by simp [dat, PyData.canLay0, PyData.depth]
  | n, .int b, h => by simp [dat, PyData.canLay0, PyData.depth]
  | n, .str s, h => by
    have h : s.cps.all (· < 0x110000) = true := by cases n <;> exact h
    exact ⟨h, Nat.zero_le _⟩
  | 0, .lst xs, h => by simp [dOk] at h
  | n + 1, .lst xs, h => by
    have h : dOks n xs = true := by simpa [dOk] using h
    obtain ⟨h1, h2⟩ := dats_lay h
    simp only [dat, PyData.canLay0, PyData.depth]
    exact ⟨h1, by omega⟩
  | 0, .tup xs, h => by simp [dOk] at h
  | n + 1, .tup xs, h => by
    have h : dOks n xs = true := by simpa [dOk] using h
    obtain ⟨h1, h2⟩ := dats_lay h
    simp only [dat, PyData.canLay0, PyData.depth]
    exact ⟨h1, by omega⟩
  | 0, .dct _, h => by simp [dOk] at h
  | 0, .obj _ _, h => by simp [dOk] at h
  | 0, .scr _, h => by simp [dOk] at h
  | n + 1, .dct _, h => by simp [dOk] at h
  | n + 1, .obj _ _, h => by simp [dOk] at h
  | n + 1, .scr _, h => by simp [dOk] at h
theorem dats_lay : ∀ {n : Nat} {ps : List PV}, dOks n ps = true → PyData.canLayAll0 (dats ps) = true ∧ PyData.depthAll (dats ps) ≤ n
  | n, [], h => by simp [dats, PyData.canLayAll0, PyData.depthAll]
  | n, p :: ps, h => by
    simp only [dOks, Bool.and_eq_true] at h
    obtain ⟨h1, h2⟩ := dat_lay h.1
    obtain ⟨h3, h4⟩ := dats_lay h.2
    simp only [dats, PyData.canLayAll0, PyData.depthAll, h1, h3, Bool.and_self, true_and]
    exact Nat.max_le.mpr ⟨h2, h4⟩
end
mutual
theorem dat_eqv : ∀ {n : Nat} {p q : PV}, dOk n p = true → dOk n q = true → cmpb p q = true → PyData.eqv (dat p) (dat q) = decide (p = q)
  | n, .non, q, h, h', c => by cases q <;> simp_all [dat, PyData.eqv, dOk]
  | n, .bl b, q, h, h', c => by
    cases q <;> simp_all [dat, PyData.eqv, dOk, cmpb]
    rename_i d; cases b <;> cases d <;> rfl
  | n, .int b, q, h, h', c => by
    cases q <;> simp_all [dat, PyData.eqv, dOk, cmpb]
    rename_i d; by_cases e : b = d <;> simp [e]
  | n, .str b, q, h, h', c => by
    cases q with
    | str d =>
      simp only [dat, PyData.eqv]
      by_cases e : b = d
      · subst e; simp
      · simp [e]
    | _ => simp_all [dat, PyData.eqv, dOk, cmpb]
  | 0, .lst xs, q, h, h', c => by simp [dOk] at h
  | n + 1, .lst xs, q, h, h', c => by
    cases q with
    | lst ys =>
      have h : dOks n xs = true := by simpa [dOk] using h
      have h' : dOks n ys = true := by simpa [dOk] using h'
      have c : cmpbs xs ys = true := by simpa [cmpb] using c
      simp only [dat, PyData.eqv]
      rw [dats_eqv h h' c]
      by_cases e : xs = ys <;> simp [e]
    | _ => simp_all [dat, PyData.eqv, dOk, cmpb]
  | 0, .tup xs, q, h, h', c => by simp [dOk] at h
  | n + 1, .tup xs, q, h, h', c => by
    cases q with
    | tup ys =>
      have h : dOks n xs = true := by simpa [dOk] using h
      have h' : dOks n ys = true := by simpa [dOk] using h'
      have c : cmpbs xs ys = true := by simpa [cmpb] using c
      simp only [dat, PyData.eqv]
      rw [dats_eqv h h' c]
      by_cases e : xs = ys <;> simp [e]
    | _ => simp_all [dat, PyData.eqv, dOk, cmpb]
  | 0, .dct _, _, h, _, _ => by simp [dOk] at h
  | 0, .obj _ _, _, h, _, _ => by simp [dOk] at h
  | 0, .scr _, _, h, _, _ => by simp [dOk] at h
  | n + 1, .dct _, _, h, _, _ => by simp [dOk] at h
  | n + 1, .obj _ _, _, h, _, _ => by simp [dOk] at h
  | n + 1, .scr _, _, h, _, _ => by simp [dOk] at h
theorem dats_eqv : ∀ {n : Nat} {ps qs : List PV}, dOks n ps = true → dOks n qs = true → cmpbs ps qs = true → PyData.eqvAll (dats ps) (dats qs) = decide (ps = qs)
  | n, [], [], _, _, _ => by simp [dats, PyData.eqvAll]
  | n, [], q :: qs, _, _, _ => by simp [dats, PyData.eqvAll]
  | n, p :: ps, [], _, _, _ => by simp [dats, PyData.eqvAll]
  | n, p :: ps, q :: qs, h, h', c => by
    simp only [dOks, Bool.and_eq_true] at h h'
    simp only [cmpbs, Bool.and_eq_true] at c
    simp only [dats, PyData.eqvAll]
    rw [dat_eqv h.1 h'.1 c.1, dats_eqv h.2 h'.2 c.2]
    by_cases e : p = q <;> by_cases e' : ps = qs <;> simp [e, e']
end
section
variable {Θ : Pm} {X : Cx} {F H : Hp} {v : V} {x : Expr} {pos : Pos} {P : List Nat} {W : WX} {σ : L2.St} {A : Ad}
mutual
theorem dat_dp (hK : X.K = Θ.K) (e : Evl.Ex F H) : ∀ {n : Nat} {p : PV} {v : V}, dOk n p = true → Rep Θ.K F p v → Dp X.K H v (dat p)
  | n, .non, v, h, r => by simp only [Rep] at r; subst r; exact .non
  | n, .bl b, v, h, r => by simp only [Rep] at r; subst r; exact .bl b
  | n, .int b, v, h, r => by simp only [Rep] at r; subst r; exact .int b
  | n, .str b, v, h, r => by simp only [Rep] at r; subst r; exact .str b
  | 0, .lst xs, v, h, r => by simp [dOk] at h
  | n + 1, .lst xs, v, h, r => by
    simp only [Rep] at r
    obtain ⟨a, vs, rfl, h1, h2⟩ := r
    exact .lst (SqL.of (e _ _ h1)) (dats_dp hK e (show dOks n xs = true by simpa [dOk] using h) h2)
  | 0, .tup xs, v, h, r => by simp [dOk] at h
  | n + 1, .tup xs, v, h, r => by
    simp only [Rep] at r
    obtain ⟨a, vs, rfl, h1, h2⟩ := r
    exact .tup (by rw [hK]; exact Evl.ex_t e h1) (dats_dp hK e (show dOks n xs = true by simpa [dOk] using h) h2)
  | 0, .dct _, _, h, _ => by simp [dOk] at h
  | 0, .obj _ _, _, h, _ => by simp [dOk] at h
  | 0, .scr _, _, h, _ => by simp [dOk] at h
  | n + 1, .dct _, _, h, _ => by simp [dOk] at h
  | n + 1, .obj _ _, _, h, _ => by simp [dOk] at h
  | n + 1, .scr _, _, h, _ => by simp [dOk] at h
theorem dats_dp (hK : X.K = Θ.K) (e : Evl.Ex F H) : ∀ {n : Nat} {ps : List PV} {vs : List V}, dOks n ps = true → Reps Θ.K F ps vs → DpAll X.K H vs (dats ps)
  | n, [], vs, h, r => by simp only [Reps] at r; subst r; exact .nil
  | n, p :: ps, vs, h, r => by
    simp only [dOks, Bool.and_eq_true] at h
    simp only [Reps] at r
    obtain ⟨w, ws, rfl, h1, h2⟩ := r
    exact .cons (dat_dp hK e h.1 h1) (dats_dp hK e h.2 h2)
end
theorem tp_dp (hK : X.K = Θ.K) (e : Evl.Ex F H) {n : Nat} {p : PV} (h : dOk n p = true) (t : Tp (Θ := Θ) F H p v) : Dp X.K H v (dat p) := by
  cases p with
  | lst xs =>
    obtain ⟨a, vs, rfl, h1, h2⟩ := t
    cases n with
    | zero => simp [dOk] at h
    | succ n => exact .lst (SqL.of h1) (dats_dp hK e (show dOks n xs = true by simpa [dOk] using h) h2)
  | dct _ => cases n <;> simp [dOk] at h
  | _ => exact dat_dp hK e h t
theorem shaped_of {n : Nat} {p : PV} (h : dOk n p = true) (hn : n ≤ 64) : SeqAt.shaped (dat p) = true := by
  obtain ⟨h1, h2⟩ := dat_lay h
  unfold SeqAt.shaped
  rw [h1, Bool.true_and]; exact decide_eq_true (by omega)
theorem shaped_lst {n : Nat} {ps : List PV} (h : dOks n ps = true) (hn : n < 64) : SeqAt.shaped (.list (dats ps)) = true :=
  shaped_of (n := n + 1) (p := .lst ps) (by simpa [dOk] using h) (by omega)
theorem any_dat {n : Nat} {p : PV} (hp : dOk n p = true) : ∀ {ys : List PV}, dOks n ys = true → ys.all (fun y => cmpb y p) = true → ((dats ys).any fun z => PyData.eqv z (dat p)) = decide (p ∈ ys)
  | [], _, _ => by simp [dats]
  | y :: ys, h, c => by
    simp only [dOks, Bool.and_eq_true] at h
    simp only [List.all_cons, Bool.and_eq_true] at c
    simp only [dats, List.any_cons]
    rw [dat_eqv h.1 hp c.1, any_dat hp h.2 c.2]
    by_cases e : y = p
    · subst e; simp
    · have e' : ¬ p = y := fun z => e z.symm
      simp [e, e']
/-! ### comparisons -/
def cmpF (o : Cop) (x y : PV) : Option SV := (cmpPV o x y).map fun r => .shr (.bl r)
theorem eqPV_some {p q : PV} {b : Bool} (h : eqPV p q = some b) : dOk 60 p = true ∧ dOk 60 q = true ∧ cmpb p q = true ∧ b = decide (p = q) := by
  unfold eqPV at h
  split at h
  · rename_i c
    simp only [Bool.and_eq_true] at c
    exact ⟨c.1.1, c.1.2, c.2, (Option.some.inj h).symm⟩
  · cases h
theorem memPV_some {p : PV} {ys : List PV} {b : Bool} (h : memPV p ys = some b) : dOk 59 p = true ∧ dOks 59 ys = true ∧ ys.all (fun y => cmpb y p) = true ∧ b = decide (p ∈ ys) := by
  unfold memPV at h
  split at h
  · rename_i c
    simp only [Bool.and_eq_true] at c
    exact ⟨c.1.1, c.1.2, c.2, (Option.some.inj h).symm⟩
  · cases h
theorem op_in_tupD (hu : X.A.units + 65 < cLine) : OpR X (compareOp .In) (fun x y H Q => ∃ d ds, Dp X.K H x d ∧ Dp X.K H y (.tuple ds) ∧ SeqAt.shaped d = true ∧ SeqAt.shaped (.tuple ds) = true ∧ Q (.bl (ds.any fun z => PyData.eqv z d)) H) := by
  intro pins s σ H x y v u Q I rx ry h
  obtain ⟨d, ds, hd, he, sd, se, q⟩ := h
  obtain ⟨as, r1⟩ := Dp.reads I d x v hd rx
  obtain ⟨bs, r2⟩ := Dp.reads I (.tuple ds) y u he ry
  exact SeqAt.in_tuple_reads r2 r1 (SeqAt.canLay_of_shaped se) (SeqAt.canLay_of_shaped sd) (room_in_shaped sd hu) ⟨.bl _, H, I, rfl, q⟩
theorem op_ni_tupD (hu : X.A.units + 65 < cLine) : OpR X (compareOp .NotIn) (fun x y H Q => ∃ d ds, Dp X.K H x d ∧ Dp X.K H y (.tuple ds) ∧ SeqAt.shaped d = true ∧ SeqAt.shaped (.tuple ds) = true ∧ Q (.bl (!ds.any fun z => PyData.eqv z d)) H) := by
  intro pins s σ H x y v u Q I rx ry h
  obtain ⟨d, ds, hd, he, sd, se, q⟩ := h
  obtain ⟨as, r1⟩ := Dp.reads I d x v hd rx
  obtain ⟨bs, r2⟩ := Dp.reads I (.tuple ds) y u he ry
  exact SeqAt.notIn_tuple_reads r2 r1 (SeqAt.canLay_of_shaped se) (SeqAt.canLay_of_shaped sd) (room_in_shaped sd hu) ⟨.bl _, H, I, rfl, q⟩
def cmpOp : Cop → CmpOp
  | .eq => .Eq | .ne => .NotEq | .lt => .Lt | .le => .LtE | .gt => .Gt | .ge => .GtE | .isin => .In | .notin => .NotIn
theorem ord_ok {op : CmpOp} {g : Int → Int → Bool} {o : Cop} (h : OpR X (compareOp op) (rI0 fun i j => .bl (g i j))) (hf : ∀ p q b, cmpPV o p q = some b → ∃ i j, p = .int i ∧ q = .int j ∧ b = g i j) : OpR X (compareOp op) (rB Θ (cmpF o)) := by
  refine OpR.weak h fun x y H Q ⟨F, p, q, s, e, h1, h2, hs, k⟩ => ?_
  unfold cmpF at hs
  cases hb : cmpPV o p q with
  | none => rw [hb] at hs; cases hs
  | some b =>
    rw [hb] at hs; cases hs
    obtain ⟨i, j, rfl, rfl, rfl⟩ := hf p q b hb
    exact ⟨i, j, tp_int h1, tp_int h2, k.1 _ rep_bl ⟨_, rfl⟩⟩
theorem op_cmp (hK : X.K = Θ.K) (hu : X.A.units + 65 < cLine) (o : Cop) : OpR X (compareOp (cmpOp o)) (rB Θ (cmpF o)) := by
  cases o with
  | eq =>
    refine OpR.weak (op_eqD (by omega)) fun x y H Q ⟨F, p, q, s, e, h1, h2, hs, k⟩ => ?_
    have hs : (eqPV p q).map (fun r => SV.shr (.bl r)) = some s := hs
    cases hb : eqPV p q with
    | none => rw [hb] at hs; cases hs
    | some b =>
      rw [hb] at hs; cases hs
      obtain ⟨c1, c2, c3, rfl⟩ := eqPV_some hb
      refine ⟨dat p, dat q, tp_dp hK e c1 h1, tp_dp hK e c2 h2, shaped_of c1 (by decide), shaped_of c2 (by decide), ?_⟩
      rw [dat_eqv c1 c2 c3]
      exact k.1 _ rep_bl ⟨_, rfl⟩
  | ne =>
    refine OpR.weak (op_neD (by omega)) fun x y H Q ⟨F, p, q, s, e, h1, h2, hs, k⟩ => ?_
    have hs : ((eqPV p q).map (!·)).map (fun r => SV.shr (.bl r)) = some s := hs
    cases hb : eqPV p q with
    | none => rw [hb] at hs; cases hs
    | some b =>
      rw [hb] at hs; cases hs
      obtain ⟨c1, c2, c3, rfl⟩ := eqPV_some hb
      refine ⟨dat p, dat q, tp_dp hK e c1 h1, tp_dp hK e c2 h2, shaped_of c1 (by decide), shaped_of c2 (by decide), ?_⟩
      rw [dat_eqv c1 c2 c3]
      exact k.1 _ rep_bl ⟨_, rfl⟩
  | lt => exact ord_ok op_lt fun p q b h => by cases p <;> cases q <;> first | (cases h; exact ⟨_, _, rfl, rfl, rfl⟩) | cases h
  | le => exact ord_ok op_le fun p q b h => by cases p <;> cases q <;> first | (cases h; exact ⟨_, _, rfl, rfl, rfl⟩) | cases h
  | gt => exact ord_ok op_gt fun p q b h => by cases p <;> cases q <;> first | (cases h; exact ⟨_, _, rfl, rfl, rfl⟩) | cases h
  | ge => exact ord_ok op_ge fun p q b h => by cases p <;> cases q <;> first | (cases h; exact ⟨_, _, rfl, rfl, rfl⟩) | cases h
  | isin =>
    refine OpR.weak (OpR.or (op_inD hu) (op_in_tupD hu)) fun x y H Q ⟨F, p, q, s, e, h1, h2, hs, k⟩ => ?_
    cases q with
    | lst ys =>
      have hs : (memPV p ys).map (fun r => SV.shr (.bl r)) = some s := by cases p <;> exact hs
      cases hb : memPV p ys with
      | none => rw [hb] at hs; cases hs
      | some b =>
        rw [hb] at hs; cases hs
        obtain ⟨c1, c2, c3, rfl⟩ := memPV_some hb
        have c4 : dOk 60 (.lst ys) = true := by simpa [dOk] using c2
        refine .inl ⟨dat p, dats ys, tp_dp hK e c1 h1, tp_dp hK e c4 h2, shaped_of c1 (by decide), shaped_lst c2 (by decide), ?_⟩
        rw [any_dat c1 c2 c3]
        exact k.1 _ rep_bl ⟨_, rfl⟩
    | tup ys =>
      have hs : (memPV p ys).map (fun r => SV.shr (.bl r)) = some s := by cases p <;> exact hs
      cases hb : memPV p ys with
      | none => rw [hb] at hs; cases hs
      | some b =>
        rw [hb] at hs; cases hs
        obtain ⟨c1, c2, c3, rfl⟩ := memPV_some hb
        have c4 : dOk 60 (.tup ys) = true := by simpa [dOk] using c2
        refine .inr ⟨dat p, dats ys, tp_dp hK e c1 h1, tp_dp hK e c4 h2, shaped_of c1 (by decide), shaped_of c4 (by decide), ?_⟩
        rw [any_dat c1 c2 c3]
        exact k.1 _ rep_bl ⟨_, rfl⟩
    | _ => cases p <;> cases hs
  | notin =>
    refine OpR.weak (OpR.or (op_notInD hu) (op_ni_tupD hu)) fun x y H Q ⟨F, p, q, s, e, h1, h2, hs, k⟩ => ?_
    cases q with
    | lst ys =>
      have hs : ((memPV p ys).map (!·)).map (fun r => SV.shr (.bl r)) = some s := by cases p <;> exact hs
      cases hb : memPV p ys with
      | none => rw [hb] at hs; cases hs
      | some b =>
        rw [hb] at hs; cases hs
        obtain ⟨c1, c2, c3, rfl⟩ := memPV_some hb
        have c4 : dOk 60 (.lst ys) = true := by simpa [dOk] using c2
        refine .inl ⟨dat p, dats ys, tp_dp hK e c1 h1, tp_dp hK e c4 h2, shaped_of c1 (by decide), shaped_lst c2 (by decide), ?_⟩
        rw [any_dat c1 c2 c3]
        exact k.1 _ rep_bl ⟨_, rfl⟩
    | tup ys =>
      have hs : ((memPV p ys).map (!·)).map (fun r => SV.shr (.bl r)) = some s := by cases p <;> exact hs
      cases hb : memPV p ys with
      | none => rw [hb] at hs; cases hs
      | some b =>
        rw [hb] at hs; cases hs
        obtain ⟨c1, c2, c3, rfl⟩ := memPV_some hb
        have c4 : dOk 60 (.tup ys) = true := by simpa [dOk] using c2
        refine .inr ⟨dat p, dats ys, tp_dp hK e c1 h1, tp_dp hK e c4 h2, shaped_of c1 (by decide), shaped_of c4 (by decide), ?_⟩
        rw [any_dat c1 c2 c3]
        exact k.1 _ rep_bl ⟨_, rfl⟩
    | _ => cases p <;> cases hs
end
end KL
end
section
set_option Elab.async false
set_option linter.all false
set_option maxRecDepth 100000
/-! KA5: is, items, slices, truth, conditionals, displays. -/
namespace KL
open PySem PySem.Spec PyProof.Rows L2
section
variable {Θ : Pm} {g : Gm} {P : List Nat} {W : WX} {X : Cx} {x : Expr} {B F F' F1 H H' H1 : Hp} {A A' A1 : Ad} {T : List Addr} {ρ ρ' : Rho} {σ : L2.St} {a : Addr} {i : Nat} {o : Opd} {v : V} {pos : Pos}

/-! ### one operand -/
def r1V (f : PV → Option SV) (ra : Rho → Rr Opd) (ρ : Rho) : Rr SV := (ra ρ).bnd fun x ρ => match x.get ρ with
  | some x => Rr.of (f x) ρ
  | none => .bad
def rU1 (Θ : Pm) (f : PV → Option SV) : V → Hp → VK → Prop := fun x H Q => ∃ F p s, Evl.Ex F H ∧ Tp (Θ := Θ) F H p x ∧ f p = some s ∧ Mk (Θ := Θ) F H s Q
theorem t1V {f : PV → Option SV} {ra : Rho → Rr Opd} {Q : VK} (h : tG Θ (vR (r1V f ra)) P W σ H Q) : tO Θ ra P W σ H fun x H1 => rU1 Θ f x H1 Q := by
  obtain ⟨B, F, A, ρ, S, q⟩ := h
  have q := Go.bnd (Go.bnd q)
  refine ⟨B, F, A, ρ, S, q.mono (fun o1 ρ1 k1 y1 F1 H1 A1 S1 f1 r1 => ?_) fun _ _ k => k⟩
  cases h1 : o1.get ρ1 with
  | none => rw [h1] at k1; exact k1.elim
  | some p =>
    rw [h1] at k1
    obtain ⟨s, hs, k1⟩ := Go.of k1
    exact ⟨F1, p, s, S1.ext, ResO.tp r1 (Evl.Ex.refl _) S1 h1, hs, Mk.of S1 f1 k1⟩

/-! ### is -/
theorem is_kon {M : Model} {A : Around} {E : Value → Shared → Prop} {s : Shared} {x : V} {v : Value} {b : Bool} {Q : Value → Shared → Prop} (r : RelV x v) (h : Q (.bool (v == .bool b)) s) : wpAny M A (compareOp .Is v (.bool b)) Q E s := by
  cases x with
  | int _ => obtain ⟨t, rfl⟩ := r; exact wpAny_pure h
  | str _ => obtain ⟨t, rfl⟩ := r; exact wpAny_pure h
  | byt _ => obtain ⟨t, rfl⟩ := r; exact wpAny_pure h
  | flt _ => obtain ⟨t, rfl⟩ := r; exact wpAny_pure h
  | _ => cases r; exact wpAny_pure h
theorem isnot_kon {M : Model} {A : Around} {E : Value → Shared → Prop} {s : Shared} {x : V} {v : Value} {b : Bool} {Q : Value → Shared → Prop} (r : RelV x v) (h : Q (.bool (!(v == .bool b))) s) : wpAny M A (compareOp .IsNot v (.bool b)) Q E s := by
  cases x with
  | int _ => obtain ⟨t, rfl⟩ := r; exact wpAny_pure h
  | str _ => obtain ⟨t, rfl⟩ := r; exact wpAny_pure h
  | byt _ => obtain ⟨t, rfl⟩ := r; exact wpAny_pure h
  | flt _ => obtain ⟨t, rfl⟩ := r; exact wpAny_pure h
  | _ => cases r; exact wpAny_pure h
theorem relV_bl {x : V} {v : Value} {b : Bool} (r : RelV x v) : (v == Value.bool b) = decide (x = .bl b) := by
  cases x with
  | non => cases r; rfl
  | bl c => cases r; cases b <;> cases c <;> rfl
  | int _ => obtain ⟨t, rfl⟩ := r; rfl
  | str _ => obtain ⟨t, rfl⟩ := r; rfl
  | byt _ => obtain ⟨t, rfl⟩ := r; rfl
  | flt _ => obtain ⟨t, rfl⟩ := r; rfl
  | ref _ => cases r; rfl
  | ty _ => cases r; rfl
theorem op_isBk : OpR X (compareOp .Is) (fun x y H Q => ∃ b, y = .bl b ∧ Q (.bl (decide (x = .bl b))) H) := by
  intro pins s σ H x y v u Q I rx ry h
  obtain ⟨b, rfl, q⟩ := h
  cases (show u = Value.bool b from ry)
  exact is_kon rx ⟨.bl _, H, I, rfl, by rw [relV_bl rx]; exact q⟩
theorem op_notBk : OpR X (compareOp .IsNot) (fun x y H Q => ∃ b, y = .bl b ∧ Q (.bl (!decide (x = .bl b))) H) := by
  intro pins s σ H x y v u Q I rx ry h
  obtain ⟨b, rfl, q⟩ := h
  cases (show u = Value.bool b from ry)
  exact isnot_kon rx ⟨.bl _, H, I, rfl, by rw [relV_bl rx]; exact q⟩
def isF (n : Bool) (c : PV) (x : PV) : Option SV := some (.shr (.bl (if n then !decide (x = c) else decide (x = c))))
theorem tp_non {p : PV} (t : Tp (Θ := Θ) F H p v) : (v = .non) ↔ (p = .non) := by
  cases p with
  | non => have t : v = .non := by simpa [Tp, Rep] using t
           simp [t]
  | bl b => have t : v = .bl b := by simpa [Tp, Rep] using t
            simp [t]
  | int b => have t : v = .int b := by simpa [Tp, Rep] using t
             simp [t]
  | str b => have t : v = .str b := by simpa [Tp, Rep] using t
             simp [t]
  | lst _ => obtain ⟨_, _, rfl, _⟩ := t; simp
  | dct _ => obtain ⟨_, _, rfl, _⟩ := t; simp
  | tup _ => have t : Rep Θ.K F _ v := t
             simp only [Rep] at t
             obtain ⟨_, _, rfl, _⟩ := t; simp
  | obj _ _ => exact (show False by simpa [Tp, Rep] using t).elim
  | scr _ => have t : Rep Θ.K F _ v := t
             simp only [Rep] at t
             obtain ⟨_, rfl, _⟩ := t; simp
theorem tp_bl {p : PV} {c : Bool} (t : Tp (Θ := Θ) F H p v) : (v = .bl c) ↔ (p = .bl c) := by
  cases p with
  | non => have t : v = .non := by simpa [Tp, Rep] using t
           simp [t]
  | bl b => have t : v = .bl b := by simpa [Tp, Rep] using t
            simp [t]
  | int b => have t : v = .int b := by simpa [Tp, Rep] using t
             simp [t]
  | str b => have t : v = .str b := by simpa [Tp, Rep] using t
             simp [t]
  | lst _ => obtain ⟨_, _, rfl, _⟩ := t; simp
  | dct _ => obtain ⟨_, _, rfl, _⟩ := t; simp
  | tup _ => have t : Rep Θ.K F _ v := t
             simp only [Rep] at t
             obtain ⟨_, _, rfl, _⟩ := t; simp
  | obj _ _ => exact (show False by simpa [Tp, Rep] using t).elim
  | scr _ => have t : Rep Θ.K F _ v := t
             simp only [Rep] at t
             obtain ⟨_, rfl, _⟩ := t; simp
theorem dec_iff {p q : Prop} [Decidable p] [Decidable q] (h : p ↔ q) : decide p = decide q := by
  by_cases hp : p
  · rw [decide_eq_true hp, decide_eq_true (h.mp hp)]
  · rw [decide_eq_false hp, decide_eq_false fun z => hp (h.mpr z)]
theorem is_ok {ra : Rho → Rr Opd} {n : Bool} {c : PV} {k : Const} {kk : Nat} {pos' : Pos} (ha : PE X x (tO Θ ra P W)) (hc : (c = .non ∧ k = .none) ∨ ∃ b, c = .bl b ∧ k = .bool b) :
    PE X (.Compare x [if n then .IsNot else .Is] [.Constant k kk pos'] pos) (tG Θ (vR (r1V (isF n c) ra)) P W) := by
  rcases hc with ⟨rfl, rfl⟩ | ⟨b, rfl, rfl⟩
  · cases n with
    | false =>
      refine PE.weak (pe_cmpR op_isN ha pe_non (nomark _)) fun σ H Q q => ?_
      obtain ⟨B, F, A, ρ, S, q⟩ := t1V q
      refine ⟨B, F, A, ρ, S, q.mono (fun o ρ' h y F' H' A' S' f r => ?_) fun _ _ k => k⟩
      obtain ⟨F2, p, s, e, t, hs, m⟩ := h y F' H' A' S' f r
      cases hs
      refine ⟨rfl, ?_⟩
      rw [dec_iff (tp_non t)]
      exact m.1 _ rep_bl ⟨_, rfl⟩
    | true =>
      refine PE.weak (pe_cmpR op_notN ha pe_non (nomark _)) fun σ H Q q => ?_
      obtain ⟨B, F, A, ρ, S, q⟩ := t1V q
      refine ⟨B, F, A, ρ, S, q.mono (fun o ρ' h y F' H' A' S' f r => ?_) fun _ _ k => k⟩
      obtain ⟨F2, p, s, e, t, hs, m⟩ := h y F' H' A' S' f r
      cases hs
      refine ⟨rfl, ?_⟩
      rw [dec_iff (tp_non t)]
      exact m.1 _ rep_bl ⟨_, rfl⟩
  · cases n with
    | false =>
      refine PE.weak (pe_cmpR op_isBk ha pe_bl (nomark _)) fun σ H Q q => ?_
      obtain ⟨B, F, A, ρ, S, q⟩ := t1V q
      refine ⟨B, F, A, ρ, S, q.mono (fun o ρ' h y F' H' A' S' f r => ?_) fun _ _ k => k⟩
      obtain ⟨F2, p, s, e, t, hs, m⟩ := h y F' H' A' S' f r
      cases hs
      refine ⟨b, rfl, ?_⟩
      rw [dec_iff (tp_bl t)]
      exact m.1 _ rep_bl ⟨_, rfl⟩
    | true =>
      refine PE.weak (pe_cmpR op_notBk ha pe_bl (nomark _)) fun σ H Q q => ?_
      obtain ⟨B, F, A, ρ, S, q⟩ := t1V q
      refine ⟨B, F, A, ρ, S, q.mono (fun o ρ' h y F' H' A' S' f r => ?_) fun _ _ k => k⟩
      obtain ⟨F2, p, s, e, t, hs, m⟩ := h y F' H' A' S' f r
      cases hs
      refine ⟨b, rfl, ?_⟩
      rw [dec_iff (tp_bl t)]
      exact m.1 _ rep_bl ⟨_, rfl⟩

/-! ### items -/
theorem atP_eq {α : Type} (xs : List α) (i : Int) : L2.atI xs i = atP xs i := by
  unfold L2.atI L2.ixN atP
  by_cases h : 0 ≤ i
  · rw [if_pos h, if_pos h]
    by_cases h2 : i < xs.length
    · rw [if_pos h2]; rfl
    · rw [if_neg h2]
      show none = _
      rw [List.getElem?_eq_none]; omega
  · rw [if_neg h, if_neg h]
    by_cases h2 : -(xs.length : Int) ≤ i
    · rw [if_pos h2, if_pos (by omega)]; rfl
    · rw [if_neg h2, if_neg (by omega)]; rfl
theorem atP_get {α : Type} {xs : List α} {i : Int} {x : α} (h : atP xs i = some x) : ∃ j : Nat, xs[j]? = some x ∧ ∀ {β : Type} (ys : List β), ys.length = xs.length → atP ys i = ys[j]? := by
  unfold atP at h
  by_cases h0 : 0 ≤ i
  · rw [if_pos h0] at h
    exact ⟨_, h, fun ys _ => by unfold atP; rw [if_pos h0]⟩
  · rw [if_neg h0] at h
    by_cases h1 : 0 ≤ i + xs.length
    · rw [if_pos h1] at h
      exact ⟨_, h, fun ys e => by unfold atP; rw [if_neg h0, e, if_pos h1]⟩
    · rw [if_neg h1] at h; cases h
theorem Reps.at {ps : List PV} {vs : List V} {i : Int} {p : PV} (r : Reps Θ.K F ps vs) (h : atP ps i = some p) : ∃ v, L2.atI vs i = some v ∧ Rep Θ.K F p v := by
  obtain ⟨j, h1, h2⟩ := atP_get h
  obtain ⟨v, h3, h4⟩ := r.get h1
  exact ⟨v, by rw [atP_eq, h2 vs r.len.symm, h3], h4⟩
theorem ix_dict (hu : X.A.units + 1 < cLine) : IxR X (fun x y H Q => ∃ a v, x = .ref a ∧ DGet H a y (some v) ∧ Q v H) := by
  intro value slice pins s σ H x y v u Q I rx ry h hs
  obtain ⟨a, w, rfl, g, q⟩ := h
  cases rx
  exact tail_any (dict_typeIs I g) PySem.F.slot_dict_getitem.lookup (d_getItem hu I g ry fun w' s3 I3 rw' => ⟨w, H, I3, rw', q⟩) hs
theorem keyOf_kV {k : PV} {k' : Key} (h : keyOf k = some k') (t : Tp (Θ := Θ) F H k v) : v = kV k' := by
  cases k with
  | int i => cases h; exact tp_int t
  | str s => cases h; exact (show v = .str s by simpa [Tp, Rep] using t)
  | _ => cases h
theorem keyOf_inj {k l : PV} {k' : Key} (h : keyOf k = some k') (h' : keyOf l = some k') : k = l := by
  cases k <;> cases l <;> simp_all [keyOf]
  · cases h; cases h'; rfl
  · cases h; cases h'
  · cases h; cases h'
  · cases h; cases h'; rfl
theorem keyPV_of {k : PV} (h : keyPV k = true) : ∃ k', keyOf k = some k' := by
  cases k <;> first | exact ⟨_, rfl⟩ | cases h
theorem RepD.look : ∀ {kvs : List (PV × PV)} {ks : List (Key × V)} {k p : PV} {k' : Key}, RepD Θ.K F kvs ks → keyOf k = some k' → lookPV k kvs = some p → ∃ v, valV ks k' = some v ∧ Rep Θ.K F p v
  | [], ks, k, p, k', r, hk, h => by cases h
  | (l, q) :: kvs, ks, k, p, k', r, hk, h => by
    simp only [RepD] at r
    obtain ⟨l', v, r', rfl, hl, hr, rr⟩ := r
    unfold lookPV at h
    by_cases e : l = k
    · rw [if_pos e] at h; cases h
      subst e
      rw [hl] at hk; cases hk
      exact ⟨v, by simp [valV], hr⟩
    · rw [if_neg e] at h
      obtain ⟨w, h1, h2⟩ := RepD.look rr hk h
      refine ⟨w, ?_, h2⟩
      have ne : ¬ l' = k' := fun z => e (keyOf_inj hl (by rw [hk, z]))
      simp only [valV] at h1 ⊢
      rw [List.find?_cons_of_neg (by simpa using ne)]; exact h1
def ixF (x y : PV) : Option SV := (idxPV x y).map .shr
theorem op_ix (hK : X.K = Θ.K) (hu : X.A.units + 65 < cLine) : IxR X (rB Θ ixF) := by
  refine IxR.weak (IxR.or ix_list (IxR.or ix_tup (ix_dict (by omega)))) fun x y H Q ⟨F, p, q, s, e, h1, h2, hs, k⟩ => ?_
  unfold ixF at hs
  cases hb : idxPV p q with
  | none => rw [hb] at hs; cases hs
  | some r =>
    rw [hb] at hs; cases hs
    cases p with
    | lst xs =>
      cases q with
      | int i =>
        obtain ⟨a, vs, rfl, q1, q2⟩ := h1
        obtain ⟨v, h3, h4⟩ := q2.at (show atP xs i = some r from hb)
        exact .inl ⟨a, vs, i, v, rfl, tp_int h2, SqL.of q1, h3, k.1 _ h4 ⟨_, rfl⟩⟩
      | _ => cases hb
    | tup xs =>
      cases q with
      | int i =>
        have h1 : Rep Θ.K F (.tup xs) x := h1
        simp only [Rep] at h1
        obtain ⟨a, vs, rfl, q1, q2⟩ := h1
        obtain ⟨v, h3, h4⟩ := q2.at (show atP xs i = some r from hb)
        exact .inr (.inl ⟨a, vs, i, v, rfl, tp_int h2, by rw [hK]; exact Evl.ex_t e q1, h3, k.1 _ h4 ⟨_, rfl⟩⟩)
      | _ => cases hb
    | scr ns =>
      cases q with
      | int i =>
        have h1 : Rep Θ.K F (.scr ns) x := h1
        simp only [Rep] at h1
        obtain ⟨a, rfl, q1⟩ := h1
        have hb : (atP ns i).map PV.int = some r := hb
        cases hc : atP ns i with
        | none => rw [hc] at hb; cases hb
        | some n =>
          rw [hc] at hb; cases hb
          obtain ⟨j, g1, g2⟩ := atP_get hc
          refine .inl ⟨a, ns.map V.int, i, .int n, rfl, tp_int h2, by rw [hK]; exact Evl.ex_l e q1, ?_, k.1 _ rep_int ⟨_, rfl⟩⟩
          rw [atP_eq, g2 _ (by simp)]; simp [g1]
      | _ => cases hb
    | dct kvs =>
      have hb : (if keyPV q then lookPV q kvs else none) = some r := by cases q <;> exact hb
      split at hb
      · rename_i hk
        obtain ⟨a, ks, rfl, q1, q2⟩ := h1
        obtain ⟨k', hk'⟩ := keyPV_of hk
        obtain ⟨v, h3, h4⟩ := q2.look hk' hb
        refine .inr (.inr ⟨a, v, rfl, ?_, k.1 _ h4 ⟨_, rfl⟩⟩)
        rw [keyOf_kV hk' h2, ← h3]
        exact DGet.k q1
      · cases hb
    | _ => cases q <;> cases hb

/-! ### slices -/
theorem sIx_eq (n : Nat) (o : Option Int) : HT.sIx n 0 o = (slcB n 0 o).toNat ∧ HT.sIx n n o = (slcB n n o).toNat := by
  cases o with
  | none => simp [HT.sIx, slcB]
  | some v =>
    unfold HT.sIx slcB
    constructor <;> (dsimp only; repeat' split) <;> omega
theorem slcB_le (n : Nat) (o : Option Int) : 0 ≤ slcB n 0 o ∧ 0 ≤ slcB n n o ∧ slcB n 0 o ≤ n ∧ slcB n n o ≤ n := by
  cases o with
  | none => simp [slcB]
  | some v =>
    unfold slcB
    dsimp only
    refine ⟨?_, ?_, ?_, ?_⟩ <;> (repeat' split) <;> omega
theorem cutV_eq (vs : List V) (lo hi : Option Int) : cutV vs lo hi = cutP vs lo hi := by
  obtain ⟨h1, _, _, _⟩ := slcB_le vs.length lo
  obtain ⟨_, h2, _, _⟩ := slcB_le vs.length hi
  unfold cutV cutP
  rw [(sIx_eq vs.length lo).1, (sIx_eq vs.length hi).2]
  congr 1
  omega
theorem Reps.cut {ps : List PV} {vs : List V} (r : Reps Θ.K F ps vs) (lo hi : Option Int) : Reps Θ.K F (cutP ps lo hi) (cutP vs lo hi) := by
  unfold cutP
  rw [r.len]
  exact (r.drop _).take _
theorem cutP_len {α : Type} (xs : List α) (lo hi : Option Int) : (cutP xs lo hi).length ≤ xs.length := by
  unfold cutP
  rw [List.length_take, List.length_drop]; omega
theorem SlR.weak {r r' : V → Option Int → Option Int → Hp → VK → Prop} (h : SlR X r) (w : ∀ x l u H Q, r' x l u H Q → r x l u H Q) : SlR X r' := fun pins s σ H x v vl vu lo hi sl Q I r1 p1 p2 p3 q => h pins s σ H x v vl vu lo hi sl Q I r1 p1 p2 p3 (w _ _ _ _ _ q)
def rS (Θ : Pm) : V → Option Int → Option Int → Hp → VK → Prop := fun x lo hi H Q => ∃ F p s, Evl.Ex F H ∧ Tp (Θ := Θ) F H p x ∧ slcPV p lo hi = some s ∧ Mk (Θ := Θ) F H s Q
theorem sl_ok (hK : X.K = Θ.K) : SlR X (rS Θ) := by
  refine SlR.weak (SlR.or sl_list sl_tupA) fun x lo hi H Q ⟨F, p, s, e, h1, hs, k⟩ => ?_
  cases p with
  | lst xs =>
    cases hs
    obtain ⟨a, vs, rfl, q1, q2⟩ := h1
    refine .inl ⟨a, vs, rfl, SqL.of q1, fun p hp => ?_⟩
    rw [cutV_eq]
    exact k.2 p _ hp (q2.cut lo hi)
  | tup xs =>
    cases hs
    have h1 : Rep Θ.K F (.tup xs) x := h1
    simp only [Rep] at h1
    obtain ⟨a, vs, rfl, q1, q2⟩ := h1
    refine .inr ⟨a, vs, rfl, by rw [hK]; exact Evl.ex_t e q1, fun hw => ?_, fun hw p hp => ?_⟩
    · refine k.1 _ ?_ ⟨_, rfl⟩
      have : cutP xs lo hi = xs := by
        rw [(sIx_eq _ lo).1, (sIx_eq _ hi).2] at hw
        rw [← q2.len] at hw
        obtain ⟨b1, _, _, _⟩ := slcB_le xs.length lo
        obtain ⟨_, b2, _, _⟩ := slcB_le xs.length hi
        show List.take _ (List.drop (slcB xs.length 0 lo).toNat xs) = xs
        rw [hw.1, List.drop_zero, List.take_of_length_le]
        omega
      show Rep Θ.K F (.tup (cutP xs lo hi)) _
      rw [this]
      simp only [Rep]; exact ⟨a, vs, rfl, q1, q2⟩
    · rw [cutV_eq]
      exact k.2 p _ hp (q2.cut lo hi)
  | _ => cases hs
end
end KL
end
section
set_option Elab.async false
set_option linter.all false
set_option maxRecDepth 100000
/-! KA6: truth, conditionals, displays. -/
namespace KL
open PySem PySem.Spec PyProof.Rows L2
/-- the truth of an operand -/
def trO (r : Rho → Rr Opd) (ρ : Rho) : Rr Opd := (r ρ).bnd fun o ρ => match o.get ρ with
  | some v => Rr.of ((truthP v).map fun b => Opd.imm (.shr (.bl b))) ρ
  | none => .bad
theorem finM_tst (r : Rr SV) : finM .tst r = (r.bnd fun v ρ => Rr.ok (Opd.imm v) ρ).bnd fun o ρ => match o.get ρ with
    | some v => Rr.of ((truthP v).map fun b => Opd.imm (.shr (.bl b))) ρ
    | none => .bad := by cases r <;> rfl
theorem tru_of {o : Opd} {p : PV} {ρ : Rho} (h : (truthP p).map (fun b => Opd.imm (.shr (.bl b))) = some o) : truthP p = some o.tru := by
  cases hb : truthP p with
  | none => rw [hb] at h; cases h
  | some b => rw [hb] at h; cases h; rfl
section
variable {Θ : Pm} {g : Gm} {P : List Nat} {W : WX} {X : Cx} {x : Expr} {B F F' F1 H H' H1 : Hp} {A A' A1 : Ad} {T : List Addr} {ρ ρ' : Rho} {σ : L2.St} {a : Addr} {i : Nat} {o : Opd} {v : V} {pos : Pos}
theorem t_tr (hK : X.K = Θ.K) {r : Rho → Rr Opd} {Q : Bool → Hp → Prop} (q : tT Θ (trO r) P W σ H Q) : tO Θ r P W σ H fun x H' => ∃ k, TruV X.K x H' k ∧ Q k H' := by
  obtain ⟨B, F, A, ρ, S, q⟩ := q
  have q := Go.bnd q
  refine ⟨B, F, A, ρ, S, q.mono (fun o ρ' k y F' H' A' S' f r => ?_) fun _ _ k => k⟩
  cases hg : o.get ρ' with
  | none => rw [hg] at k; exact k.elim
  | some p =>
    rw [hg] at k
    obtain ⟨o', ho, k⟩ := Go.of k
    exact ⟨_, truV_of hK (ResO.tp r (Evl.Ex.refl _) S' hg) S'.ext (tru_of (ρ := ρ') ho), k F' H' A' S' f⟩
theorem pt_tr (hK : X.K = Θ.K) {r : Rho → Rr Opd} (h : PE X x (tO Θ r P W)) (he : ∀ whole, isTrue x X.env whole = (do let v ← whole; standAt x.pos; holding [v] (truthy v))) : PT X x (tT Θ (trO r) P W) :=
  PT.weak (pt_truth h he) fun _ _ _ q => t_tr hK q
/-- not x, as a value -/
theorem not_ok (hK : X.K = Θ.K) {r : Rho → Rr Opd} (h : PE X x (tO Θ r P W)) : PE X (.UnaryOp .Not x pos) (tG Θ (vR fun ρ => (trO r ρ).bnd fun b ρ => .ok (.shr (.bl (!b.tru))) ρ) P W) := by
  refine PE.weak (pe_notT h) fun σ H Q q => ?_
  refine t_tr hK ?_
  obtain ⟨B, F, A, ρ, S, q⟩ := q
  have q := Go.bnd (Go.bnd q)
  refine ⟨B, F, A, ρ, S, q.mono (fun o ρ' k F' H' A' S' f => ?_) fun _ _ k => k⟩
  exact (show okE Θ P B F H A σ Q (.imm (.shr (.bl (!o.tru)))) ρ' from k) _ F' H' A' [] S' f TOk.nil ⟨rfl, rep_bl⟩
theorem notT_ok {r : Rho → Rr Opd} (h : PT X x (tT Θ r P W)) : PT X (.UnaryOp .Not x pos) (tT Θ (fun ρ => (r ρ).bnd fun b ρ => .ok (.imm (.shr (.bl (!b.tru)))) ρ) P W) := by
  refine PT.weak (pt_not h) fun σ H Q q => ?_
  obtain ⟨B, F, A, ρ, S, q⟩ := q
  have q := Go.bnd q
  refine ⟨B, F, A, ρ, S, q.mono (fun o ρ' k F' H' A' S' f => ?_) fun _ _ k => k⟩
  exact (show okT P B F H A σ Q (Θ := Θ) (.imm (.shr (.bl (!o.tru)))) ρ' from k) F' H' A' S' f

/-- a if t else b -/
theorem ife_ok {t a b : Expr} {rt ra rb : Rho → Rr Opd} (ht : PT X t (tT Θ rt P W)) (ha : PE X a (tG Θ ra P W)) (hb : PE X b (tG Θ rb P W)) : PE X (.IfExp t a b pos) (tG Θ (fun ρ => (rt ρ).bnd fun c ρ => if c.tru then ra ρ else rb ρ) P W) := by
  refine PE.weak (pe_ifExp ht ha hb) fun σ H Q q => ?_
  obtain ⟨B, F, A, ρ, S, q⟩ := q
  have q := Go.bnd q
  refine ⟨B, F, A, ρ, S, q.mono (fun o ρ' k F' H' A' S' f => ?_) fun _ _ k => k⟩
  have up : ∀ {r : Rho → Rr Opd}, Go (r ρ') (okE Θ P B F H A σ Q) (exE Θ P B F H A σ W) → tG Θ r P W σ H' Q := fun {r} k =>
    ⟨B, F', A', ρ', S', k.mono (fun o2 ρ2 k2 y F2 H2 A2 T2 S2 f2 t2 r2 => k2 y F2 H2 A2 T2 S2 (f.trans f2) t2 r2) fun p ρ2 k2 c d F2 H2 A2 S2 f2 e2 => k2 c d F2 H2 A2 S2 (f.trans f2) e2⟩
  cases hc : o.tru with
  | true => rw [hc] at k; exact up k
  | false => rw [hc] at k; exact up k
/-! ### and, or -/
def andV (r rr : Rho → Rr Opd) (ρ : Rho) : Rr Opd := (r ρ).bnd fun v ρ => match v.sv.val with
  | .bl true => rr ρ
  | .bl false => .ok (.imm (.shr (.bl false))) ρ
  | _ => .bad
def orV (r rr : Rho → Rr Opd) (ρ : Rho) : Rr Opd := (r ρ).bnd fun v ρ => match v.sv.val with
  | .bl false => rr ρ
  | .bl true => .ok (.imm (.shr (.bl true))) ρ
  | _ => .bad
def andB (r rr : Rho → Rr Opd) (ρ : Rho) : Rr Opd := (r ρ).bnd fun b ρ => if b.tru then rr ρ else .ok (.imm (.shr (.bl false))) ρ
def orB (r rr : Rho → Rr Opd) (ρ : Rho) : Rr Opd := (r ρ).bnd fun b ρ => if b.tru then .ok (.imm (.shr (.bl true))) ρ else rr ρ
theorem tG_up {r : Rho → Rr Opd} {Q : VK} (S' : Sta Θ.K P B F' H' A' ρ' σ) (f : Frm F H A F' H' A' []) (k : Go (r ρ') (okE Θ P B F H A σ Q) (exE Θ P B F H A σ W)) : tG Θ r P W σ H' Q :=
  ⟨B, F', A', ρ', S', k.mono (fun o2 ρ2 k2 y F2 H2 A2 T2 S2 f2 t2 r2 => k2 y F2 H2 A2 T2 S2 (f.trans f2) t2 r2) fun p ρ2 k2 c d F2 H2 A2 S2 f2 e2 => k2 c d F2 H2 A2 S2 (f.trans f2) e2⟩
theorem tT_up {r : Rho → Rr Opd} {Q : Bool → Hp → Prop} (S' : Sta Θ.K P B F' H' A' ρ' σ) (f : Frm F H A F' H' A' []) (k : Go (r ρ') (okT Θ P B F H A σ Q) (exE Θ P B F H A σ W)) : tT Θ r P W σ H' Q :=
  ⟨B, F', A', ρ', S', k.mono (fun o2 ρ2 k2 F2 H2 A2 S2 f2 => k2 F2 H2 A2 S2 (f.trans f2)) fun p ρ2 k2 c d F2 H2 A2 S2 f2 e2 => k2 c d F2 H2 A2 S2 (f.trans f2) e2⟩
theorem res_bl {c : Bool} {v : V} (r : ResO Θ F σ o v) (h : o.sv.val = .bl c) : v = .bl c := by
  cases o with
  | ref i => cases h
  | imm s =>
    have r : Rep Θ.K F s.val v := r
    rw [show s.val = .bl c from h] at r
    simpa [Rep] using r
theorem andV_ok {r rr : Rho → Rr Opd} {a b : Expr} {rest : List Expr} (ha : PE X a (tG Θ r P W)) (hb : PE X (.BoolOp .And (b :: rest) pos) (tG Θ rr P W)) : PE X (.BoolOp .And (a :: b :: rest) pos) (tG Θ (andV r rr) P W) := by
  refine PE.weak (pe_and (PE.opd ha) hb) fun σ H Q q => ?_
  obtain ⟨B, F, A, ρ, S, q⟩ := q
  have q := Go.bnd q
  refine ⟨B, F, A, ρ, S, q.mono (fun o ρ' k y F' H' A' S' f r => ?_) fun _ _ k => k⟩
  cases hv : o.sv.val with
  | bl c =>
    rw [hv] at k
    refine ⟨c, res_bl r hv, ?_⟩
    cases c with
    | true => exact tG_up S' f k
    | false => exact (show okE Θ P B F H A σ Q (.imm (.shr (.bl false))) ρ' from k) _ F' H' A' [] S' f TOk.nil ⟨rfl, rep_bl⟩
  | _ => rw [hv] at k; exact k.elim
theorem orV_ok {r rr : Rho → Rr Opd} {a b : Expr} {rest : List Expr} (ha : PE X a (tG Θ r P W)) (hb : PE X (.BoolOp .Or (b :: rest) pos) (tG Θ rr P W)) : PE X (.BoolOp .Or (a :: b :: rest) pos) (tG Θ (orV r rr) P W) := by
  refine PE.weak (pe_or (PE.opd ha) hb) fun σ H Q q => ?_
  obtain ⟨B, F, A, ρ, S, q⟩ := q
  have q := Go.bnd q
  refine ⟨B, F, A, ρ, S, q.mono (fun o ρ' k y F' H' A' S' f r => ?_) fun _ _ k => k⟩
  cases hv : o.sv.val with
  | bl c =>
    rw [hv] at k
    refine ⟨c, res_bl r hv, ?_⟩
    cases c with
    | false => exact tG_up S' f k
    | true => exact (show okE Θ P B F H A σ Q (.imm (.shr (.bl true))) ρ' from k) _ F' H' A' [] S' f TOk.nil ⟨rfl, rep_bl⟩
  | _ => rw [hv] at k; exact k.elim
theorem PW.weak {t t' : TT} (h : PW X x t) (w : ∀ σ H Q, t' σ H Q → t σ H Q) : PW X x t' := ⟨fun wh pins s σ H Q I q => h.run wh pins s σ H Q I (w _ _ _ q)⟩
theorem andB_ok {r rr : Rho → Rr Opd} {a b : Expr} {rest : List Expr} (ha : PT X a (tT Θ r P W)) (hb : PW X (.BoolOp .And (b :: rest) pos) (tT Θ rr P W)) : PW X (.BoolOp .And (a :: b :: rest) pos) (tT Θ (andB r rr) P W) := by
  refine PW.weak (pw_and ha hb) fun σ H Q q => ?_
  obtain ⟨B, F, A, ρ, S, q⟩ := q
  have q := Go.bnd q
  refine ⟨B, F, A, ρ, S, q.mono (fun o ρ' k F' H' A' S' f => ?_) fun _ _ k => k⟩
  cases hc : o.tru with
  | true => rw [hc] at k; exact tT_up S' f k
  | false =>
    rw [hc] at k
    exact (show okT Θ P B F H A σ Q (.imm (.shr (.bl false))) ρ' from k) F' H' A' S' f
theorem orB_ok {r rr : Rho → Rr Opd} {a b : Expr} {rest : List Expr} (ha : PT X a (tT Θ r P W)) (hb : PW X (.BoolOp .Or (b :: rest) pos) (tT Θ rr P W)) : PW X (.BoolOp .Or (a :: b :: rest) pos) (tT Θ (orB r rr) P W) := by
  refine PW.weak (pw_or ha hb) fun σ H Q q => ?_
  obtain ⟨B, F, A, ρ, S, q⟩ := q
  have q := Go.bnd q
  refine ⟨B, F, A, ρ, S, q.mono (fun o ρ' k F' H' A' S' f => ?_) fun _ _ k => k⟩
  cases hc : o.tru with
  | false => rw [hc] at k; exact tT_up S' f k
  | true =>
    rw [hc] at k
    exact (show okT Θ P B F H A σ Q (.imm (.shr (.bl true))) ρ' from k) F' H' A' S' f

/-! ### items of a display -/
/-- a list of results: each stands still, or is a result's own -/
def Ress (K : PySem.W.Frag) (F H : Hp) : List SV → List V → List Addr → Prop
  | [], xs, T => xs = [] ∧ T = []
  | s :: ss, xs, T => ∃ x r T1 T2, xs = x :: r ∧ T = T1 ++ T2 ∧ Res K F H [] (.imm s) x T1 ∧ Ress K F H ss r T2
def okS (Θ : Pm) (P : List Nat) (B F H : Hp) (A : Ad) (σ : L2.St) (Q : List V → Hp → Prop) (ss : List SV) (ρ' : Rho) : Prop := ∀ xs F' H' A' T, Sta Θ.K P B F' H' A' ρ' σ → Frm F H A F' H' A' T → TOk A' F' H' T → Ress Θ.K F' H' ss xs T → Q xs H'
def tS (Θ : Pm) (r : Rho → Rr (List SV)) (P : List Nat) (W : WX) : TA := fun σ H Q => ∃ B F A ρ, Sta Θ.K P B F H A ρ σ ∧ Go (r ρ) (okS Θ P B F H A σ Q) (exE Θ P B F H A σ W)
theorem PA.weak {es : List Expr} {t t' : TA} (h : PA X es t) (w : ∀ σ H Q, t' σ H Q → t σ H Q) : PA X es t' := ⟨fun p pins s σ H Q I q => h.run p pins s σ H Q I (w _ _ _ q)⟩
/-- a result carried through a run -/
theorem Res.on {K : PySem.W.Frag} {s : SV} {y : V} {σ' : L2.St} {T1 : List Addr} (r : Res K F H σ (.imm s) y T) (t : TOk A F H T) (f : Frm F H A F1 H1 A1 T1) : Res K F1 H1 σ' (.imm s) y T := by
  have st : ∀ b ∈ T, ∀ u, H b = some u → H1 b = some u := fun b hb u q => (f.keep b u (t.no b hb) q (t.ap b hb)).2
  cases s with
  | shr p => exact ⟨r.1, r.2.mono f.ext⟩
  | own p => obtain ⟨b, rfl, e, c⟩ := r; exact ⟨b, rfl, e, c.on f.ext (st b (by simp))⟩
  | own2 p => obtain ⟨b, bs, rfl, e, c⟩ := r; exact ⟨b, bs, rfl, e, c.on f.ext st⟩
  | un => exact r.elim
  | frz2 _ => exact r.elim
theorem Frm.more {T1 T2 : List Addr} (f : Frm F H A F1 H1 A1 T1) (g : Frm F1 H1 A1 F' H' A' T2) : Frm F H A F' H' A' (T1 ++ T2) := f.trans g
theorem es_nil : PA X [] (tS Θ (fun ρ => .ok [] ρ) P W) := by
  refine PA.weak pa_nil fun σ H Q q => ?_
  obtain ⟨B, F, A, ρ, S, q⟩ := q
  exact (show okS Θ P B F H A σ Q [] ρ from q) [] F H A [] S (Frm.refl _ _ _) TOk.nil ⟨rfl, rfl⟩
theorem es_cons {r : Rho → Rr Opd} {rr : Rho → Rr (List SV)} {es : List Expr} (ha : PE X x (tG Θ r P W)) (hb : PA X es (tS Θ rr P W)) (hr : ∀ ρ o ρ', r ρ = .ok o ρ' → ∃ s, o = .imm s) (hs : starEach (x :: es) X.env = (false, eval x X.env) :: starEach es X.env) :
    PA X (x :: es) (tS Θ (fun ρ => (r ρ).bnd fun v ρ => (rr ρ).bnd fun vs ρ => .ok (v.sv :: vs) ρ) P W) := by
  refine PA.weak (pa_cons ha hb hs) fun σ H Q q => ?_
  obtain ⟨B, F, A, ρ, S, q⟩ := q
  have q := Go.bnd q
  refine ⟨B, F, A, ρ, S, ?_⟩
  cases hr' : r ρ with
  | bad => rw [hr'] at q; exact q.elim
  | exc p ρ' => rw [hr'] at q; exact q
  | ok o ρ' =>
    rw [hr'] at q
    obtain ⟨s, rfl⟩ := hr ρ o ρ' hr'
    have q := Go.bnd q
    intro y F1 H1 A1 T1 S1 f1 t1 r1
    refine ⟨B, F1, A1, ρ', S1, q.mono (fun ss ρ2 k xs F2 H2 A2 T2 S2 f2 t2 r2 => ?_) fun p ρ2 k c d F2 H2 A2 S2 f2 e2 => k c d F2 H2 A2 S2 (f1.drop.trans f2) e2⟩
    exact (show okS Θ P B F H A σ Q (s :: ss) ρ2 from k) (y :: xs) F2 H2 A2 (T1 ++ T2) S2 (f1.more f2) (t1.app f2 t2) ⟨y, xs, T1, T2, rfl, rfl, r1.on t1 f2, r2⟩
theorem Ress.shr {K : PySem.W.Frag} : ∀ {ps : List PV} {vs : List V} {ss : List SV} {xs : List V} {T : List Addr}, Reps K F ps vs → Ress K F H ss xs T → Ress K F H (ps.map .shr ++ ss) (vs ++ xs) T
  | [], vs, ss, xs, T, h, r => by simp only [Reps] at h; subst h; exact r
  | p :: ps, vs, ss, xs, T, h, r => by
    simp only [Reps] at h
    obtain ⟨v, w, rfl, h1, h2⟩ := h
    exact ⟨v, w ++ xs, [], T, rfl, rfl, ⟨rfl, h1⟩, Ress.shr h2 r⟩
theorem es_star (hK : X.K = Θ.K) {r : Rho → Rr Opd} {rr : Rho → Rr (List SV)} {es : List Expr} {sp : Pos} (ha : PE X x (tO Θ r P W)) (hb : PA X es (tS Θ rr P W)) (hs : starEach (.Starred x sp :: es) X.env = (true, eval x X.env) :: starEach es X.env) :
    PA X (.Starred x sp :: es) (tS Θ (fun ρ => (r ρ).bnd fun x ρ => match x.get ρ with
      | some (.lst xs) => (rr ρ).bnd fun vs ρ => .ok (xs.map .shr ++ vs) ρ
      | some (.tup xs) => (rr ρ).bnd fun vs ρ => .ok (xs.map .shr ++ vs) ρ
      | _ => .bad) P W) := by
  refine PA.weak (StX.pa_star ha hb hs) fun σ H Q q => ?_
  obtain ⟨B, F, A, ρ, S, q⟩ := q
  have q := Go.bnd q
  refine ⟨B, F, A, ρ, S, q.mono (fun o ρ' k y F1 H1 A1 S1 f1 r1 => ?_) fun _ _ k => k⟩
  have go : ∀ {ps : List PV} {vs : List V} , Reps Θ.K F1 ps vs → Go ((rr ρ').bnd fun vs ρ => Rr.ok (ps.map SV.shr ++ vs) ρ) (okS Θ P B F H A σ Q) (exE Θ P B F H A σ W) → tS Θ rr P W σ H1 fun ys H2 => Q (vs ++ ys) H2 := fun {ps vs} hp k => by
    have k := Go.bnd k
    refine ⟨B, F1, A1, ρ', S1, k.mono (fun ss ρ2 k xs F2 H2 A2 T2 S2 f2 t2 r2 => ?_) fun p ρ2 k c d F2 H2 A2 S2 f2 e2 => k c d F2 H2 A2 S2 (f1.trans f2) e2⟩
    exact (show okS Θ P B F H A σ Q _ ρ2 from k) _ F2 H2 A2 T2 S2 (f1.trans f2) t2 (Ress.shr (hp.mono f2.ext) r2)
  cases hg : o.get ρ' with
  | none => rw [hg] at k; exact k.elim
  | some p =>
    rw [hg] at k
    have tp := ResO.tp r1 (Evl.Ex.refl _) S1 hg
    cases p with
    | lst ps =>
      obtain ⟨b, vs, rfl, q1, q2⟩ := tp
      exact ⟨b, vs, rfl, .inr (SqL.of q1), go q2 k⟩
    | tup ps =>
      have tp : Rep Θ.K F1 (.tup ps) y := tp
      simp only [Rep] at tp
      obtain ⟨b, vs, rfl, q1, q2⟩ := tp
      exact ⟨b, vs, rfl, .inl (by rw [hK]; exact Evl.ex_t S1.ext q1), go q2 k⟩
    | _ => exact k.elim
theorem Res.frzT {K : PySem.W.Frag} {F0 H0 : Hp} {A0 : Ad} {s : SV} {T1 T2 : List Addr} {σ' : L2.St} (S : Sta K P B F H A ρ σ) (f : Frm F0 H0 A0 F H A (T1 ++ T2)) (t : TOk A F H (T1 ++ T2)) (r : Res K F H σ' (.imm s) v T1) :
    ∃ F2, Sta K P B F2 H A ρ σ ∧ Frm F0 H0 A0 F2 H A T2 ∧ TOk A F2 H T2 ∧ Evl.Ex F F2 ∧ Rep K F2 s.val v := by
  have no1 : ∀ b ∈ T1, F b = none := fun b hb => t.no b (by simp [hb])
  have e := updAll_ex (H := H) no1
  have ht : ∀ b ∈ T1, ∃ u, H b = some u := fun b hb => by
    cases q : H b with
    | none => exact absurd q (t.th b (by simp [hb]))
    | some u => exact ⟨u, rfl⟩
  obtain ⟨nd1, nd2, dj⟩ := List.nodup_append.mp t.nd
  refine ⟨updAll F H T1, S.on (updAll_ext S.ext ht) e (fun c hc q => ?_) (fun _ _ _ q => q) S.mono, ⟨f.ext.trans e, fun c w h1 h2 h3 => ?_, f.own, fun b hb => f.tn b (by simp [hb]), f.fre⟩,
    ⟨nd2, fun b hb => t.ap b (by simp [hb]), fun b hb => ?_, fun b hb => t.th b (by simp [hb])⟩, e, ?_⟩
  · rw [updAll_out]; exact q
    intro z; exact t.ap c (by simp [z]) hc
  · obtain ⟨k1, k2⟩ := f.keep c w h1 h2 h3
    refine ⟨?_, k2⟩
    rw [updAll_out]; exact k1
    intro z
    rw [f.tn c (by simp [z])] at h2; cases h2
  · rw [updAll_out]; exact t.no b (by simp [hb])
    intro z; exact dj b z b hb rfl
  · cases s with
    | shr p => obtain ⟨rfl, r⟩ := r; exact r
    | own p =>
      obtain ⟨b, rfl, rfl, c⟩ := r
      have hb : updAll F H [b] b = H b := updAll_in (by simp) ht
      show Rep K _ p _
      cases p with
      | lst xs =>
        obtain ⟨vs, q1, q2⟩ := c
        simp only [Rep]; exact ⟨b, vs, rfl, hb.trans q1, q2.mono e⟩
      | dct xs =>
        obtain ⟨vs, q1, q2⟩ := c
        simp only [Rep]; exact ⟨b, vs, rfl, hb.trans q1, q2.mono e⟩
      | _ => exact c.elim
    | own2 p =>
      obtain ⟨b, bs, rfl, rfl, c⟩ := r
      exact (cont2_rep c no1).1
    | un => exact r.elim
    | frz2 _ => exact r.elim
theorem Res.ex {K : PySem.W.Frag} {s : SV} {σ' : L2.St} (r : Res K F H σ' (.imm s) v T) (e : Evl.Ex F F1) : Res K F1 H σ' (.imm s) v T := by
  cases s with
  | shr p => exact ⟨r.1, r.2.mono e⟩
  | own p => obtain ⟨b, rfl, q, c⟩ := r; exact ⟨b, rfl, q, c.on e fun _ h => h⟩
  | own2 p => obtain ⟨b, bs, rfl, q, c⟩ := r; exact ⟨b, bs, rfl, q, c.on e fun _ _ _ h => h⟩
  | un => exact r.elim
  | frz2 _ => exact r.elim
theorem Ress.ex {K : PySem.W.Frag} (e : Evl.Ex F F1) : ∀ {ss : List SV} {xs : List V} {T : List Addr}, Ress K F H ss xs T → Ress K F1 H ss xs T
  | [], _, _, h => h
  | s :: ss, xs, T, h => by
    obtain ⟨x, r, T1, T2, rfl, rfl, h1, h2⟩ := h
    exact ⟨x, r, T1, T2, rfl, rfl, h1.ex e, h2.ex e⟩
/-- all of them come to stand still -/
theorem Ress.frz {K : PySem.W.Frag} {F0 H0 : Hp} {A0 : Ad} : ∀ {ss : List SV} {xs : List V} {T : List Addr} {F : Hp}, Sta K P B F H A ρ σ → Frm F0 H0 A0 F H A T → TOk A F H T → Ress K F H ss xs T →
    ∃ F2, Sta K P B F2 H A ρ σ ∧ Frm F0 H0 A0 F2 H A [] ∧ Evl.Ex F F2 ∧ Reps K F2 (ss.map SV.val) xs
  | [], xs, T, F, S, f, t, h => by
    obtain ⟨rfl, rfl⟩ := h
    exact ⟨F, S, f, Evl.Ex.refl _, Reps.nil⟩
  | s :: ss, xs, T, F, S, f, t, h => by
    obtain ⟨x, r, T1, T2, rfl, rfl, h1, h2⟩ := h
    obtain ⟨F2, S2, f2, t2, e2, r2⟩ := Res.frzT S f t h1
    obtain ⟨F3, S3, f3, e3, r3⟩ := Ress.frz S2 f2 t2 (h2.ex e2)
    exact ⟨F3, S3, f3, e2.trans e3, .cons (r2.mono e3) r3⟩
theorem Ress.len {K : PySem.W.Frag} : ∀ {ss : List SV} {xs : List V} {T : List Addr}, Ress K F H ss xs T → xs.length = ss.length
  | [], _, _, h => by rw [h.1]; rfl
  | s :: ss, xs, T, h => by
    obtain ⟨x, r, T1, T2, rfl, rfl, h1, h2⟩ := h
    simp [h2.len]
/-- lists of their own, within a new list -/
theorem Ress.deep {K : PySem.W.Frag} : ∀ {ss : List SV} {xs : List V} {T : List Addr}, ss.all isOwnL = true → Ress K F H ss xs T → xs = T.map V.ref ∧ Paired (fun y b => (∃ zs, y = PV.lst zs) ∧ Cont K F H b y) (ss.map SV.val) T
  | [], xs, T, _, h => by obtain ⟨rfl, rfl⟩ := h; exact ⟨rfl, .nil⟩
  | s :: ss, xs, T, ha, h => by
    obtain ⟨x, r, T1, T2, rfl, rfl, h1, h2⟩ := h
    simp only [List.all_cons, Bool.and_eq_true] at ha
    obtain ⟨e, p⟩ := Ress.deep ha.2 h2
    cases s with
    | own p' =>
      cases p' with
      | lst zs =>
        obtain ⟨b, rfl, rfl, c⟩ := h1
        rw [e]
        exact ⟨rfl, .cons ⟨⟨zs, rfl⟩, c⟩ p⟩
      | _ => cases ha.1
    | _ => cases ha.1
/-- a new list of results -/
theorem pack_ok {d : Bool} {ss : List SV} {xs : List V} {s : SV} {Q : VK} (S : Sta Θ.K P B F' H' A' ρ' σ) (f : Frm F H A F' H' A' T) (t : TOk A' F' H' T) (r : Ress Θ.K F' H' ss xs T) (hp : packL d ss = some s) (k : okE Θ P B F H A σ Q (.imm s) ρ') {p : Addr} (hn : H' p = none) :
    Q (.ref p) (upd H' p (.lst xs)) := by
  unfold packL at hp
  cases d with
  | false =>
    cases hp
    obtain ⟨F2, S2, f2, e2, r2⟩ := Ress.frz S f t r
    exact k (.ref p) F2 (upd H' p (.lst xs)) A' [p] (S2.newH hn) (f2.trans (Frm.newH hn)) (TOk.newH S2 hn) ⟨p, rfl, rfl, xs, upd_same, r2⟩
  | true =>
    have hp : (if ss.all isOwnL = true then some (SV.own2 (.lst (ss.map SV.val))) else none) = some s := hp
    split at hp
    · rename_i ha
      cases hp
      obtain ⟨rfl, pr⟩ := Ress.deep ha r
      have nT : p ∉ T := fun z => t.th p z hn
      have nx := Frm.newH (F := F') (A := A') (o := HO.lst (T.map V.ref)) hn
      have t' := t.on nx
      refine k (.ref p) F' (upd H' p (.lst (T.map V.ref))) A' (p :: T) (S.newH hn) ⟨f.ext, fun a o h1 h2 h3 => ?_, f.own, fun b hb => ?_, fun a h => nx.fre a (f.fre a h)⟩ ⟨List.nodup_cons.mpr ⟨nT, t.nd⟩, fun b hb => ?_, fun b hb => ?_, fun b hb => ?_⟩ ⟨p, T, rfl, rfl, upd_same, ?_⟩
      · obtain ⟨k1, k2⟩ := f.keep a o h1 h2 h3
        refine ⟨k1, ?_⟩
        rw [upd_ne]; exact k2
        rintro rfl; rw [hn] at k2; cases k2
      · rcases List.mem_cons.mp hb with rfl | hb
        · exact f.nn hn
        · exact f.tn b hb
      · rcases List.mem_cons.mp hb with rfl | hb
        · exact S.fresh hn
        · exact t.ap b hb
      · rcases List.mem_cons.mp hb with rfl | hb
        · exact S.freshF hn
        · exact t.no b hb
      · rcases List.mem_cons.mp hb with rfl | hb
        · rw [upd_same]; exact fun z => nomatch z
        · exact t'.th b hb
      · have st : ∀ b ∈ T, ∀ u, H' b = some u → upd H' p (.lst (T.map V.ref)) b = some u := fun b hb u q => by
          rw [upd_ne]; exact q
          rintro rfl; exact nT hb
        revert st pr
        generalize upd H' p (.lst (T.map V.ref)) = G
        generalize ss.map SV.val = ys
        clear r t t' nT f nx k S
        intro pr st
        induction pr with
        | nil => exact .nil
        | cons a b ih => exact .cons ⟨a.1, a.2.on (Evl.Ex.refl _) (st _ (by simp))⟩ (ih fun c hc => st c (by simp [hc]))
    · cases hp
theorem lst_ok {r : Rho → Rr (List SV)} {es : List Expr} {d : Bool} (h : PA X es (tS Θ r P W)) : PE X (.List es pos) (tG Θ (vR fun ρ => (r ρ).bnd fun vs ρ => if vs.length ≤ big then Rr.of (packL d vs) ρ else .bad) P W) := by
  refine PE.weak (pe_lst h) fun σ H Q q => ?_
  obtain ⟨B, F, A, ρ, S, q⟩ := q
  have q := Go.bnd (Go.bnd q)
  refine ⟨B, F, A, ρ, S, q.mono (fun ss ρ' k xs F' H' A' T S' f t r => ?_) fun _ _ k => k⟩
  split at k
  · rename_i hz
    obtain ⟨s, hs, k⟩ := Go.of k
    exact ⟨by rw [r.len]; exact hz, fun p hp => pack_ok S' f t r hs k hp⟩
  · exact k.elim
theorem tup_ok {r : Rho → Rr (List SV)} {es : List Expr} {n : Nat} (h : PA X es (tS Θ r P W)) : PE X (.Tuple es n pos) (tG Θ (vR fun ρ => (r ρ).bnd fun vs ρ => if vs.length ≤ big then .ok (.shr (.tup (vs.map SV.val))) ρ else .bad) P W) := by
  refine PE.weak (pe_tup h) fun σ H Q q => ?_
  obtain ⟨B, F, A, ρ, S, q⟩ := q
  have q := Go.bnd (Go.bnd q)
  refine ⟨B, F, A, ρ, S, q.mono (fun ss ρ' k xs F' H' A' T S' f t r => ?_) fun _ _ k => k⟩
  split at k
  · rename_i hz
    obtain ⟨F2, S2, f2, e2, r2⟩ := Ress.frz S' f t r
    exact ⟨by rw [r.len]; exact hz, fun p hp => (Mk.of S2 f2 (show okE Θ P B F H A σ Q (.imm (.shr (.tup (ss.map SV.val)))) ρ' from k)).2 p xs hp r2⟩
  · exact k.elim
end
end KL
end
section
set_option Elab.async false
set_option linter.all false
set_option maxRecDepth 100000
/-! KA7: calls of defs. -/
namespace KL
open PySem PySem.Spec PyProof.Rows L2
section
variable {K : PySem.W.Frag} {P : List Nat} {B F F' F0 F1 F2 H H' H0 H1 H2 : Hp} {A A' A0 A1 A2 : Ad} {T T1 T2 U : List Addr} {ρ ρ' : Rho} {σ : L2.St} {a : Addr} {i : Nat}
theorem TOk.sub (t : TOk A F H T) (h : ∀ a ∈ U, a ∈ T) (n : U.Nodup) : TOk A F H U := ⟨n, fun a ha => t.ap a (h a ha), fun a ha => t.no a (h a ha), fun a ha => t.th a (h a ha)⟩
theorem Frm.sub (f : Frm F H A F' H' A' T) (h : ∀ a ∈ U, a ∈ T) : Frm F H A F' H' A' U := ⟨f.ext, f.keep, f.own, fun a ha => f.tn a (h a ha), f.fre⟩
/-- operands of a call -/
def Opss (K : PySem.W.Frag) (F H : Hp) (σ : L2.St) : List Opd → List V → List Addr → Prop
  | [], xs, T => xs = [] ∧ T = []
  | o :: os, xs, T => ∃ x r T1 T2, xs = x :: r ∧ T = T1 ++ T2 ∧ Res K F H σ o x T1 ∧ Opss K F H σ os r T2
theorem Opss.ex (e : Evl.Ex F F1) : ∀ {ss : List Opd} {xs : List V} {T : List Addr}, Opss K F H σ ss xs T → Opss K F1 H σ ss xs T
  | [], _, _, h => h
  | o :: ss, xs, T, h => by
    obtain ⟨x, r, T1, T2, rfl, rfl, h1, h2⟩ := h
    refine ⟨x, r, T1, T2, rfl, rfl, ?_, h2.ex e⟩
    cases o with
    | ref i => exact h1
    | imm s => exact h1.ex e
theorem Opss.len : ∀ {os : List Opd} {xs : List V} {T : List Addr}, Opss K F H σ os xs T → xs.length = os.length
  | [], _, _, h => by rw [h.1]; rfl
  | s :: ss, xs, T, h => by
    obtain ⟨x, r, T1, T2, rfl, rfl, h1, h2⟩ := h
    simp [h2.len]
theorem Opss.shr : ∀ {ps : List Opd} {vs : List V} {T : List Addr} {F : Hp}, Sta K P B F H A ρ σ → True → True := fun _ _ => trivial
theorem SlotOk.base {s : SV} {o : Option V} {as : List Addr} (h : SlotOk K H0 F H s o as) (m : ∀ a, B a ≠ none → H0 a ≠ none) : SlotOk K B F H s o as := by
  cases s with
  | frz2 v =>
    obtain ⟨h1, a, h2, h3, n0, vs, h4, h5⟩ := h
    have bn : ∀ b, H0 b = none → B b = none := fun b q => by
      cases z : B b with
      | none => rfl
      | some u => exact absurd q (m b (by rw [z]; exact fun z => nomatch z))
    exact ⟨h1, a, h2, h3, bn a n0, vs, h4, fun w hw => by
      obtain ⟨b, zs, e1, e2, e3⟩ := h5 w hw
      exact ⟨b, zs, e1, bn b e2, e3⟩⟩
  | un => exact h
  | shr v => exact h
  | own v => exact h
  | own2 v => exact h
theorem refOf_late {m : Option Nat} {j : Nat} (h : m = some j) : ∀ {os : List Opd} {k : Nat}, j < k → refOf m k os = none
  | [], _, _ => rfl
  | .ref i :: os, k, hk => by
    unfold refOf
    rw [if_neg (by rw [h]; intro z; have := Option.some.inj z; omega)]
    exact refOf_late h (by omega)
  | .imm s :: os, k, hk => by
    unfold refOf
    exact refOf_late h (by omega)
/-- the arguments as slots -/
theorem args_sta {m : Option Nat} : ∀ {os : List Opd} {xs : List V} {T U : List Addr} {j : Nat} {as : List SV} {F : Hp}, Sta K P B F H A ρ σ → Frm F0 H0 A0 F H A (T ++ U) → TOk A F H (T ++ U) → Opss K F H σ os xs T → argsOf ρ m j os = some as →
    ∃ F2 T2, ∃ G : Ad, Sta K P B F2 H A ρ σ ∧ Frm F0 H0 A0 F2 H A (T2 ++ U) ∧ TOk A F2 H (T2 ++ U) ∧ Evl.Ex F F2 ∧ as.length = xs.length ∧
      (∀ i s, as[i]? = some s → ∃ x, xs[i]? = some x ∧ SlotOk K H F2 H s (some x) (G i)) ∧ (∀ i, as.length ≤ i → G i = []) ∧
      (∀ i, ∀ a ∈ G i, m = some (j + i) ∧ ((a ∈ T2 ∧ refOf m j os = none) ∨ ∃ r, refOf m j os = some r ∧ a ∈ A r)) ∧ (∀ i, (G i).Nodup) ∧ (∀ (i : Nat) (v : PV), as[i]? ≠ some (SV.own2 v))
  | [], xs, T, U, j, as, F, S, f, t, h, ha => by
    obtain ⟨rfl, rfl⟩ := h
    cases ha
    exact ⟨F, [], fun _ => [], S, f, t, Evl.Ex.refl _, rfl, fun i s h => by simp at h, fun _ _ => rfl, (fun _ _ z => nomatch z), fun _ => List.nodup_nil, fun i v h => by simp at h⟩
  | .ref r0 :: os, xs, T, U, j, as, F, S, f, t, h, ha => by
    obtain ⟨x, r, T1, T2, rfl, rfl, ⟨rfl, hx⟩, h2⟩ := h
    have ha : (match ρ[r0]?, argsOf ρ m (j + 1) os with
      | some (.own v), some vs => if m = some j then some (SV.own v :: vs) else none
      | _, _ => none) = some as := ha
    cases hs : ρ[r0]? with
    | none => rw [hs] at ha; cases ha
    | some s0 =>
      rw [hs] at ha
      cases s0 with
      | own v =>
        cases hr : argsOf ρ m (j + 1) os with
        | none => rw [hr] at ha; cases ha
        | some vs =>
          rw [hr] at ha
          have ha : (if m = some j then some (SV.own v :: vs) else none) = some as := ha
          split at ha
          · rename_i hm
            cases ha
            obtain ⟨F2, T3, G, S2, f2, t2, e2, l2, g1, g2, g3, g4, g5⟩ := args_sta S f t h2 hr
            obtain ⟨o, ho, ok⟩ := S2.at hs
            rw [hx] at ho; cases ho
            obtain ⟨b, hb, e, hF, hc⟩ := ok
            refine ⟨F2, T3, fun i => match i with | 0 => A r0 | i + 1 => G i, S2, f2, t2, e2, by simp [l2], fun i s hi => ?_, fun i hi => ?_, fun i a hi => ?_, fun i => ?_, fun i w hi => ?_⟩
            · cases i with
              | zero => simp at hi; subst hi; exact ⟨x, rfl, b, hb, e, hF, hc⟩
              | succ i => exact g1 i s (by simpa using hi)
            · cases i with
              | zero => simp at hi
              | succ i => exact g2 i (by simpa using hi)
            · cases i with
              | zero => exact ⟨hm, .inr ⟨r0, by unfold refOf; rw [if_pos hm], hi⟩⟩
              | succ i =>
                obtain ⟨q1, _⟩ := g3 i a hi
                rw [hm] at q1
                have := Option.some.inj q1
                omega
            · cases i with
              | zero => exact S2.nd r0
              | succ i => exact g4 i
            · cases i with
              | zero => simp at hi
              | succ i => exact g5 i w (by simpa using hi)
          · cases ha
      | _ => cases ha
  | .imm s0 :: os, xs, T, U, j, as, F, S, f, t, h, ha => by
    obtain ⟨x, r, T1, T2, rfl, rfl, hx, h2⟩ := h
    have ha : (match argsOf ρ m (j + 1) os with
      | some vs => if m = some j then (match (generalizing := false) s0 with | .own w => some (SV.own w :: vs) | _ => none) else some (SV.shr s0.val :: vs)
      | none => none) = some as := ha
    cases hr : argsOf ρ m (j + 1) os with
    | none => rw [hr] at ha; cases ha
    | some vs =>
      rw [hr] at ha
      have ha : (if m = some j then (match (generalizing := false) s0 with | .own w => some (SV.own w :: vs) | _ => none) else some (SV.shr s0.val :: vs)) = some as := ha
      split at ha
      · rename_i hm
        cases s0 with
        | own w =>
          cases ha
          have sub : ∀ a ∈ T2 ++ (T1 ++ U), a ∈ T1 ++ T2 ++ U := fun a h => by
            simp only [List.mem_append] at h ⊢
            rcases h with h | h | h
            · exact .inl (.inr h)
            · exact .inl (.inl h)
            · exact .inr h
          have nd : (T2 ++ (T1 ++ U)).Nodup := by
            have q := t.nd
            refine (List.Perm.nodup_iff ?_).mp q
            rw [List.append_assoc]
            exact (List.perm_append_comm_assoc T1 T2 U)
          obtain ⟨F2, T3, G, S2, f2, t2, e2, l2, g1, g2, g3, g4, g5⟩ := args_sta (U := T1 ++ U) S (f.sub sub) (t.sub sub nd) h2 hr
          have sub2 : ∀ a ∈ T1 ++ T3 ++ U, a ∈ T3 ++ (T1 ++ U) := fun a h => by
            simp only [List.mem_append] at h ⊢
            rcases h with (h | h) | h
            · exact .inr (.inl h)
            · exact .inl h
            · exact .inr (.inr h)
          have nd2 : (T1 ++ T3 ++ U).Nodup := by
            have q := t2.nd
            refine (List.Perm.nodup_iff ?_).mp q
            rw [List.append_assoc]
            exact (List.perm_append_comm_assoc T3 T1 U)
          have hx' := hx.ex e2
          obtain ⟨b, rfl, rfl, hc⟩ := hx'
          refine ⟨F2, [b] ++ T3, fun i => match i with | 0 => [b] | i + 1 => G i, S2, f2.sub sub2, t2.sub sub2 nd2, e2, by simp [l2], fun i s hi => ?_, fun i hi => ?_, fun i a hi => ?_, fun i => ?_, fun i w hi => ?_⟩
          · cases i with
            | zero => simp at hi; subst hi; exact ⟨_, rfl, b, rfl, rfl, t2.no b (by simp), hc⟩
            | succ i => exact g1 i s (by simpa using hi)
          · cases i with
            | zero => simp at hi
            | succ i => exact g2 i (by simpa using hi)
          · cases i with
            | zero => exact ⟨hm, .inl ⟨by simp at hi; simp [hi], by unfold refOf; exact refOf_late hm (by omega)⟩⟩
            | succ i =>
              obtain ⟨q1, _⟩ := g3 i a hi
              rw [hm] at q1
              have := Option.some.inj q1
              omega
          · cases i with
            | zero => simp
            | succ i => exact g4 i
          · cases i with
            | zero => simp at hi
            | succ i => exact g5 i w (by simpa using hi)
        | _ => cases ha
      · rename_i hm
        cases ha
        have f' : Frm F0 H0 A0 F H A (T1 ++ (T2 ++ U)) := by rw [← List.append_assoc]; exact f
        have t' : TOk A F H (T1 ++ (T2 ++ U)) := by rw [← List.append_assoc]; exact t
        obtain ⟨F1, S1, f1, t1, e1, r1⟩ := Res.frzT S f' t' hx
        obtain ⟨F2, T3, G, S2, f2, t2, e2, l2, g1, g2, g3, g4, g5⟩ := args_sta S1 f1 t1 (h2.ex e1) hr
        refine ⟨F2, T3, fun i => match i with | 0 => [] | i + 1 => G i, S2, f2, t2, e1.trans e2, by simp [l2], fun i s hi => ?_, fun i hi => ?_, fun i a hi => ?_, fun i => ?_, fun i w hi => ?_⟩
        · cases i with
          | zero => simp at hi; subst hi; exact ⟨_, rfl, rfl, _, rfl, r1.mono e2⟩
          | succ i => exact g1 i s (by simpa using hi)
        · cases i with
          | zero => rfl
          | succ i => exact g2 i (by simpa using hi)
        · cases i with
          | zero => cases hi
          | succ i =>
            obtain ⟨q1, q2⟩ := g3 i a hi
            refine ⟨by rw [q1]; congr 1; omega, ?_⟩
            rcases q2 with q2 | ⟨r, q2, q3⟩
            · exact .inl ⟨q2.1, by unfold refOf; exact q2.2⟩
            · exact .inr ⟨r, by unfold refOf; exact q2, q3⟩
        · cases i with
          | zero => exact List.nodup_nil
          | succ i => exact g4 i
        · cases i with
          | zero => simp at hi
          | succ i => exact g5 i w (by simpa using hi)
end
end KL
end
section
set_option Elab.async false
set_option linter.all false
set_option maxRecDepth 100000
/-! KA8: a def's promise by the evaluator; its call. -/
namespace KL
open PySem PySem.Spec PyProof.Rows L2
/-- what a def promises: it does what the evaluator does -/
def spG (Θ : Pm) (g : Gm) (f : Nat) (n : Nat) : Sp := fun vs H Q E => ∃ F A as, vs.length = n ∧ Sta Θ.K (g.lent f).toList H F H A as (vs.map some) ∧ match g.call f as with
  | .ok v bk => ∀ x F' H' A' T, Sta Θ.K (g.lent f).toList H F' H' A' (setBk (g.lent f) bk as) (vs.map some) → Frm F H A F' H' A' T → TOk A' F' H' T → Res Θ.K F' H' [] (.imm v) x T → Q x H'
  | .exc p bk => ∀ c d F' H' A', Sta Θ.K (g.lent f).toList H F' H' A' (setBk (g.lent f) bk as) (vs.map some) → Frm F H A F' H' A' [] → Exr Θ F' H' p c d → E c d H'
  | .bad => False
def okA (Θ : Pm) (P : List Nat) (B F H : Hp) (A : Ad) (σ : L2.St) (Q : List V → Hp → Prop) (os : List Opd) (ρ' : Rho) : Prop := ∀ xs F' H' A' T, Sta Θ.K P B F' H' A' ρ' σ → Frm F H A F' H' A' T → TOk A' F' H' T → Opss Θ.K F' H' σ os xs T → Q xs H'
def tA (Θ : Pm) (r : Rho → Rr (List Opd)) (P : List Nat) (W : WX) : TA := fun σ H Q => ∃ B F A ρ, Sta Θ.K P B F H A ρ σ ∧ Go (r ρ) (okA Θ P B F H A σ Q) (exE Θ P B F H A σ W)
def callE (g : Gm) (f : Nat) (ra : Rho → Rr (List Opd)) (ρ : Rho) : Rr SV := (ra ρ).bnd fun os ρ => match argsOf ρ (g.lent f) 0 os with
  | some vs => (match g.call f vs with
    | .ok v bk => .ok v (setBk (refOf (g.lent f) 0 os) bk ρ)
    | .exc x bk => .exc x (setBk (refOf (g.lent f) 0 os) bk ρ)
    | .bad => .bad)
  | none => .bad
section
variable {Θ : Pm} {g : Gm} {P : List Nat} {W : WX} {X : Cx} {x : Expr} {B F F' F0 F1 F2 H H' H0 H1 H2 : Hp} {A A' A0 A1 A2 : Ad} {T T1 T2 U : List Addr} {ρ ρ' : Rho} {σ : L2.St} {a : Addr} {i : Nat} {v : V} {pos : Pos}
theorem as_nil : PA X [] (tA Θ (fun ρ => .ok [] ρ) P W) := by
  refine PA.weak pa_nil fun σ H Q q => ?_
  obtain ⟨B, F, A, ρ, S, q⟩ := q
  exact (show okA Θ P B F H A σ Q [] ρ from q) [] F H A [] S (Frm.refl _ _ _) TOk.nil ⟨rfl, rfl⟩
theorem as_cons {r : Rho → Rr Opd} {rr : Rho → Rr (List Opd)} {es : List Expr} (ha : PE X x (tG Θ r P W)) (hb : PA X es (tA Θ rr P W)) (hs : starEach (x :: es) X.env = (false, eval x X.env) :: starEach es X.env) :
    PA X (x :: es) (tA Θ (fun ρ => (r ρ).bnd fun o ρ => (rr ρ).bnd fun os ρ => .ok (o :: os) ρ) P W) := by
  refine PA.weak (pa_cons ha hb hs) fun σ H Q q => ?_
  obtain ⟨B, F, A, ρ, S, q⟩ := q
  have q := Go.bnd q
  refine ⟨B, F, A, ρ, S, q.mono (fun o ρ' k y F1 H1 A1 T1 S1 f1 t1 r1 => ?_) fun _ _ k => k⟩
  have k := Go.bnd k
  refine ⟨B, F1, A1, ρ', S1, k.mono (fun ss ρ2 k xs F2 H2 A2 T2 S2 f2 t2 r2 => ?_) fun p ρ2 k c d F2 H2 A2 S2 f2 e2 => k c d F2 H2 A2 S2 (f1.drop.trans f2) e2⟩
  refine (show okA Θ P B F H A σ Q (o :: ss) ρ2 from k) (y :: xs) F2 H2 A2 (T1 ++ T2) S2 (f1.more f2) (t1.app f2 t2) ⟨y, xs, T1, T2, rfl, rfl, ?_, r2⟩
  cases o with
  | ref i => exact r1
  | imm s => exact r1.on t1 f2
/-- a name's own list is lent -/
theorem lend_ok {nm : Str} (hN : X.N[i]? = some nm) (hv : Vis X.env.scope nm) (hd : (nm == ("__debug__" : Str)) = false) (hcd : (nm == ("__classdict__" : Str)) = false) :
    PE X (.Name nm pos) (tG Θ (fun ρ => match ρ[i]? with | some (.own _) => .ok (.ref i) ρ | _ => .bad) P W) := by
  refine PE.weak (pe_var (i := i) hN hv hd hcd) fun σ H Q q => ?_
  obtain ⟨B, F, A, ρ, S, q⟩ := q
  cases hs : ρ[i]? with
  | none => simp only [hs] at q; exact q.elim
  | some s =>
    simp only [hs] at q
    cases s with
    | own p =>
      obtain ⟨u, hu, y, _, hy, _⟩ := S.at hs
      subst hy
      exact ⟨_, hu, (show okE Θ P B F H A σ Q (.ref i) ρ from q) _ F H A [] S (Frm.refl _ _ _) TOk.nil ⟨rfl, hu⟩⟩
    | _ => exact q.elim
theorem toList_mem {m : Option Nat} {i : Nat} : i ∈ m.toList ↔ m = some i := by cases m <;> simp [eq_comm]
theorem setBk_self {m : Option Nat} {bk : SV} {as : List SV} {j : Nat} (h : m = some j) (hj : j < as.length) : (setBk m bk as)[j]? = some bk := by
  subst h; simp [setBk, hj]
/-- the caller's slots behind a call -/
theorem behind {m : Option Nat} {os : List Opd} {xs : List V} {T2 : List Addr} {G : Ad} {as : List SV} {bk : SV} {Tc : List Addr} (S2 : Sta Θ.K P B F2 H A ρ σ) (f2 : Frm F0 H0 A0 F2 H A T2) (t2 : TOk A F2 H T2)
    (hx : ∀ r, refOf m 0 os = some r → ∃ j x, m = some j ∧ ρ[r]? ≠ none ∧ σ[r]? = some (some x) ∧ xs[j]? = some x)
    (hP : ∀ r v, refOf m 0 os = some r → bk = .own2 v → r ∉ P)
    (hG : ∀ i, ∀ a ∈ G i, m = some i ∧ ((a ∈ T2 ∧ refOf m 0 os = none) ∨ ∃ r, refOf m 0 os = some r ∧ a ∈ A r)) (Sc : Sta Θ.K m.toList H F' H' A' (setBk m bk as) (xs.map some)) (fc : Frm F2 H G F' H' A' Tc) (tc : TOk A' F' H' Tc) (hl : as.length = xs.length) :
    ∃ A'' : Ad, Sta Θ.K P B F' H' A'' (setBk (refOf m 0 os) bk ρ) σ ∧ Frm F0 H0 A0 F' H' A'' Tc ∧ TOk A'' F' H' Tc := by
  have st : ∀ k b, b ∈ A k → (∀ r, refOf m 0 os = some r → k ≠ r) → F' b = none ∧ ∀ u, H b = some u → H' b = some u := fun k b hb hk => by
    obtain ⟨n1, u, hu⟩ := S2.no hb
    have q := fc.keep b u n1 hu fun ⟨i, hi⟩ => by
      obtain ⟨_, q | ⟨r, q1, q2⟩⟩ := hG i b hi
      · exact t2.ap b q.1 ⟨k, hb⟩
      · exact hk r q1 (S2.dj k r b hb q2)
    exact ⟨q.1, fun w hw => by rw [hu] at hw; cases hw; exact q.2⟩
  have keep : ∀ a o, F0 a = none → H0 a = some o → ¬ Oa A0 a → F' a = none ∧ H' a = some o := fun a o h1 h2 h3 => by
    obtain ⟨k1, k2⟩ := f2.keep a o h1 h2 h3
    refine fc.keep a o k1 k2 fun ⟨i, hi⟩ => ?_
    obtain ⟨_, q | ⟨r, q1, q2⟩⟩ := hG i a hi
    · rw [f2.tn a q.1] at h2; cases h2
    · rcases f2.own a ⟨r, q2⟩ with z | z
      · exact h3 z
      · rw [h2] at z; cases z
  have mono : ∀ a, B a ≠ none → H' a ≠ none := fun a h => fc.fre a (S2.mono a h)
  cases hr : refOf m 0 os with
  | none =>
    refine ⟨A, S2.on Sc.ext fc.ext (fun b ⟨k, hb⟩ _ => (st k b hb fun r z => by rw [hr] at z; cases z).1) (fun b ⟨k, hb⟩ u hu => (st k b hb fun r z => by rw [hr] at z; cases z).2 u hu) mono, ⟨f2.ext.trans fc.ext, keep, f2.own, fun a h => f2.nn (fc.tn a h), fun a h => fc.fre a (f2.fre a h)⟩,
      tc.nd, fun a h ⟨k, hk⟩ => ?_, tc.no, tc.th⟩
    obtain ⟨_, u, hu⟩ := S2.no hk
    rw [fc.tn a h] at hu; cases hu
  | some r =>
    obtain ⟨j, x, hm, h1, h2, h3⟩ := hx r hr
    have hrl : r < ρ.length := by
      cases q : ρ[r]? with
      | none => exact absurd q h1
      | some s => exact S2.lt q
    have hjl : j < as.length := by rw [hl]; exact (List.getElem?_eq_some_iff.mp h3).1
    have ok := Sc.ok j bk (some x) (setBk_self hm hjl) (by rw [List.getElem?_map, h3]; rfl)
    have own : ∀ a ∈ A' j, Oa A0 a ∨ H0 a = none := fun a ha => by
      rcases fc.own a ⟨j, ha⟩ with ⟨i, hi⟩ | q
      · obtain ⟨_, q | ⟨r', q1, q2⟩⟩ := hG i a hi
        · exact .inr (f2.tn a q.1)
        · exact f2.own a ⟨r', q2⟩
      · exact .inr (f2.nn q)
    have old : ∀ a ∈ A' j, H a ≠ none → a ∈ A r := fun a ha hn => by
      rcases fc.own a ⟨j, ha⟩ with ⟨i, hi⟩ | q
      · obtain ⟨_, q | ⟨r', q1, q2⟩⟩ := hG i a hi
        · rw [hr] at q; cases q.2
        · rw [hr] at q1; cases q1; exact q2
      · exact absurd q hn
    have S3 := S2.put (i := r) (s' := bk) (o' := some x) (as' := A' j) Sc.ext fc.ext (fun k b hk hb _ => (st k b hb fun r' z => by rw [hr] at z; cases z; exact hk).1) (fun k b hk hb u hu => (st k b hb fun r' z => by rw [hr] at z; cases z; exact hk).2 u hu) hrl (ok.base S2.mono) (Sc.nd j) (fun k b hk hb z => ?_) (fun hp b hb => ?_) mono (fun w hw => hP r w hr hw)
    · rw [set_self h2] at S3
      refine ⟨setA A r (A' j), S3, ⟨f2.ext.trans fc.ext, keep, fun a h => ?_, fun a h => f2.nn (fc.tn a h), fun a h => fc.fre a (f2.fre a h)⟩, tc.nd, fun a h z => ?_, tc.no, tc.th⟩
      · rcases oa_set h with h | ⟨k, hk, h⟩
        · exact own a h
        · exact f2.own a ⟨k, h⟩
      · rcases oa_set z with z | ⟨k, hk, z⟩
        · exact tc.ap a h ⟨j, z⟩
        · obtain ⟨_, u, hu⟩ := S2.no z
          rw [fc.tn a h] at hu; cases hu
    · obtain ⟨_, u, hu⟩ := S2.no hb
      exact hk (S2.dj k r b hb (old b z (by rw [hu]; exact fun z => nomatch z)))
    · cases hH : H b with
      | none =>
        cases hB : B b with
        | none => rfl
        | some u => exact absurd hH (S2.mono b (by rw [hB]; exact fun z => nomatch z))
      | some u =>
        exact S2.new r hp b (old b hb (by rw [hH]; exact fun z => nomatch z))
theorem refOf_at {m : Option Nat} {r : Nat} : ∀ {os : List Opd} {xs : List V} {T : List Addr} {j : Nat} {as : List SV}, Opss Θ.K F H σ os xs T → argsOf ρ m j os = some as → refOf m j os = some r → ∃ i x, m = some (j + i) ∧ ρ[r]? ≠ none ∧ σ[r]? = some (some x) ∧ xs[i]? = some x
  | [], _, _, _, _, _, _, h => by cases h
  | .imm s :: os, xs, T, j, as, ho, ha, h => by
    obtain ⟨x, w, T1, T2, rfl, rfl, h1, h2⟩ := ho
    have h : refOf m (j + 1) os = some r := h
    have ha : (match argsOf ρ m (j + 1) os with
      | some vs => if m = some j then (match (generalizing := false) s with | .own w => some (SV.own w :: vs) | _ => none) else some (SV.shr s.val :: vs)
      | none => none) = some as := ha
    cases hr : argsOf ρ m (j + 1) os with
    | none => rw [hr] at ha; cases ha
    | some vs =>
      obtain ⟨i, y, q1, q2, q3, q4⟩ := refOf_at h2 hr h
      exact ⟨i + 1, y, by rw [q1]; congr 1; omega, q2, q3, by simpa using q4⟩
  | .ref i0 :: os, xs, T, j, as, ho, ha, h => by
    obtain ⟨x, w, T1, T2, rfl, rfl, ⟨_, h1⟩, h2⟩ := ho
    have ha : (match ρ[i0]?, argsOf ρ m (j + 1) os with
      | some (.own v), some vs => if m = some j then some (SV.own v :: vs) else none
      | _, _ => none) = some as := ha
    have h : (if m = some j then some i0 else refOf m (j + 1) os) = some r := h
    cases hs : ρ[i0]? with
    | none => rw [hs] at ha; cases ha
    | some s0 =>
      split at h
      · rename_i hm
        cases h
        exact ⟨0, x, by simpa using hm, by (rw [hs]; exact fun z => nomatch z), h1, rfl⟩
      · rename_i hm
        rw [hs] at ha
        cases s0 with
        | own v =>
          cases hr : argsOf ρ m (j + 1) os with
          | none => rw [hr] at ha; cases ha
          | some vs =>
            rw [hr] at ha
            have ha : (if m = some j then some (SV.own v :: vs) else none) = some as := ha
            rw [if_neg hm] at ha; cases ha
        | _ => cases ha
theorem call_ok {k n : Nat} {fa : Addr} {fd : FuncData} {ps : List Str} {f : Nat} {ra : Rho → Rr (List Opd)} {nm : Str} {p : Pos} {e : Expr} {es : List Expr} (hP : ∀ j v bk as, g.call f as = .ok v bk → g.lent f = some j → ∀ w, bk ≠ .own2 w) (hP2 : ∀ j v bk as, g.call f as = .exc v bk → g.lent f = some j → ∀ w, bk ≠ .own2 w)
    (tk : Takes X W) (Fo : FnOk X.prog X.w X.K X.mg X.base (L2.CX X.prog X.w) k fa fd ps (spG Θ g f n)) (hn : ps.length = n) (hr : Room k X.A) (hg : Gl X nm) (hm : X.mg nm = some (.ref fa)) (hk : PySem.W.keepIn X.K (.ref fa) = true) (hb : Binds X.K fd ps [])
    (hdb : (nm == ("__debug__" : Str)) = false) (ha : PA X (e :: es) (tA Θ ra P W)) (he : starEach (e :: es) X.env = (false, eval e X.env) :: starEach es X.env) (hpl : (backTo pos (starEach es X.env)).any (·.1) = false) (hlen : ∀ ρ os ρ', ra ρ = .ok os ρ' → os.length = n) :
    PE X (.Call (.Name nm p) (e :: es) [] pos) (tG Θ (vR (callE g f ra)) P W) := by
  refine PE.weak (pe_callSD (E := WE W) Fo hr hg hm hk hb .nil (passAt tk) ha hdb he hpl) fun σ H Q q => ?_
  obtain ⟨B, F, A, ρ, S, q⟩ := q
  have q := Go.bnd (Go.bnd q)
  refine ⟨B, F, A, ρ, S, ?_⟩
  cases hra : ra ρ with
  | bad => rw [hra] at q; exact q.elim
  | exc p ρ' => rw [hra] at q; exact q
  | ok os ρ1 =>
    rw [hra] at q
    intro xs F1 H1 A1 T1 S1 f1 t1 ops
    show spG Θ g f n (xs ++ []) H1 Q (WE W σ)
    rw [List.append_nil]
    have q : Go (match argsOf ρ1 (g.lent f) 0 os with
      | some vs => (match g.call f vs with
        | .ok v bk => Rr.ok v (setBk (refOf (g.lent f) 0 os) bk ρ1)
        | .exc x bk => .exc x (setBk (refOf (g.lent f) 0 os) bk ρ1)
        | .bad => .bad)
      | none => .bad) (fun v ρ => okE Θ P B F H A σ Q (.imm v) ρ) (exE Θ P B F H A σ W) := q
    cases hag : argsOf ρ1 (g.lent f) 0 os with
    | none => simp only [hag] at q; exact q.elim
    | some as =>
      simp only [hag] at q
      obtain ⟨F2, T2, G, S2, f2, t2, e2, l2, g1, g2, g3, g4, g5⟩ := args_sta (U := []) S1 (by rw [List.append_nil]; exact f1) (by rw [List.append_nil]; exact t1) ops hag
      rw [List.append_nil] at f2 t2
      have g3' : ∀ i, ∀ a ∈ G i, g.lent f = some i ∧ ((a ∈ T2 ∧ refOf (g.lent f) 0 os = none) ∨ ∃ r, refOf (g.lent f) 0 os = some r ∧ a ∈ A1 r) := fun i a hi => by
        obtain ⟨c1, c2⟩ := g3 i a hi
        exact ⟨by rw [c1]; congr 1; omega, c2⟩
      have Sg : Sta Θ.K (g.lent f).toList H1 F2 H1 G as (xs.map some) := ⟨S2.ext, by simpa using l2, fun i s o hs ho => by
          obtain ⟨y, hy, ok⟩ := g1 i s hs
          rw [List.getElem?_map, hy] at ho
          cases ho; exact ok, g2, g4, fun i j a hi hj => by
          have a1 := (g3' i a hi).1
          have a2 := (g3' j a hj).1
          rw [a1] at a2; exact Option.some.inj a2, fun i hi a ha => absurd (toList_mem.mpr (g3' i a ha).1) hi, fun _ h => h, fun i w hw => absurd hw (g5 i w)⟩
      have hx : ∀ r, refOf (g.lent f) 0 os = some r → ∃ j x, g.lent f = some j ∧ ρ1[r]? ≠ none ∧ σ[r]? = some (some x) ∧ xs[j]? = some x := fun r hr => by
        obtain ⟨i, y, c1, c2, c3, c4⟩ := refOf_at ops hag hr
        exact ⟨i, y, by rw [c1]; congr 1; omega, c2, c3, c4⟩
      refine ⟨F2, G, as, by rw [ops.len, hlen ρ os ρ1 hra], Sg, ?_⟩
      cases hc : g.call f as with
      | bad => simp only [hc] at q; exact q.elim
      | ok v bk =>
        simp only [hc] at q
        intro y F' H' A' T Sc fc tc rc
        obtain ⟨A2, S3, f3, t3⟩ := behind S2 f2 t2 hx (fun r w hr hb => by
          obtain ⟨j, _, hj, _⟩ := hx r hr
          exact absurd hb (hP j v bk as hc hj w)) g3' Sc fc tc l2
        refine (show okE Θ P B F H A σ Q (.imm v) _ from q) y F' H' A2 T S3 f3 t3 ?_
        cases v <;> exact rc
      | exc p bk =>
        simp only [hc] at q
        intro c d F' H' A' Sc fc er
        obtain ⟨A2, S3, f3, t3⟩ := behind S2 f2 t2 hx (fun r w hr hb => by
          obtain ⟨j, _, hj, _⟩ := hx r hr
          exact absurd hb (hP2 j p bk as hc hj w)) g3' Sc fc TOk.nil l2
        exact (show exE Θ P B F H A σ W p _ from q) c d F' H' A2 S3 f3 er
end
end KL
end
section
set_option Elab.async false
set_option linter.all false
set_option maxRecDepth 100000
/-! KA9: built-in functions and methods. -/
namespace KL
open PySem PySem.Spec PyProof.Rows L2
def ResOs (Θ : Pm) (F : Hp) (σ : L2.St) : List Opd → List V → Prop
  | [], xs => xs = []
  | o :: os, xs => ∃ x r, xs = x :: r ∧ ResO Θ F σ o x ∧ ResOs Θ F σ os r
def okOs (Θ : Pm) (P : List Nat) (B F H : Hp) (A : Ad) (σ : L2.St) (Q : List V → Hp → Prop) (os : List Opd) (ρ' : Rho) : Prop := ∀ xs F' H' A', Sta Θ.K P B F' H' A' ρ' σ → Frm F H A F' H' A' [] → ResOs Θ F' σ os xs → Q xs H'
def tOs (Θ : Pm) (r : Rho → Rr (List Opd)) (P : List Nat) (W : WX) : TA := fun σ H Q => ∃ B F A ρ, Sta Θ.K P B F H A ρ σ ∧ Go (r ρ) (okOs Θ P B F H A σ Q) (exE Θ P B F H A σ W)
def rNV (f : List PV → Option SV) (r : Rho → Rr (List Opd)) (ρ : Rho) : Rr SV := (r ρ).bnd fun os ρ => match getAll ρ os with
  | some vs => Rr.of (f vs) ρ
  | none => .bad
def Tps (Θ : Pm) (F H : Hp) : List PV → List V → Prop
  | [], xs => xs = []
  | p :: ps, xs => ∃ x r, xs = x :: r ∧ Tp (Θ := Θ) F H p x ∧ Tps Θ F H ps r
def rC (Θ : Pm) (f : List PV → Option SV) : List V → Hp → VK → Prop := fun xs H Q => ∃ F ps s, Evl.Ex F H ∧ Tps Θ F H ps xs ∧ f ps = some s ∧ Mk (Θ := Θ) F H s Q
section
variable {Θ : Pm} {g : Gm} {P : List Nat} {W : WX} {X : Cx} {x : Expr} {B F F' F0 F1 F2 H H' H0 H1 H2 : Hp} {A A' A0 A1 A2 : Ad} {T T1 T2 U : List Addr} {ρ ρ' : Rho} {σ : L2.St} {a : Addr} {i : Nat} {v : V} {pos : Pos} {o : Opd}
theorem ResO.on (r : ResO Θ F σ o v) (e : Evl.Ex F F1) : ResO Θ F1 σ o v := by
  cases o with
  | ref i => exact r
  | imm s => exact Rep.mono e r
theorem os_nil : PA X [] (tOs Θ (fun ρ => .ok [] ρ) P W) := by
  refine PA.weak pa_nil fun σ H Q q => ?_
  obtain ⟨B, F, A, ρ, S, q⟩ := q
  exact (show okOs Θ P B F H A σ Q [] ρ from q) [] F H A S (Frm.refl _ _ _) rfl
theorem os_cons {r : Rho → Rr Opd} {rr : Rho → Rr (List Opd)} {es : List Expr} (ha : PE X x (tO Θ r P W)) (hb : PA X es (tOs Θ rr P W)) (hs : starEach (x :: es) X.env = (false, eval x X.env) :: starEach es X.env) :
    PA X (x :: es) (tOs Θ (fun ρ => (r ρ).bnd fun o ρ => (rr ρ).bnd fun os ρ => .ok (o :: os) ρ) P W) := by
  refine PA.weak (pa_cons ha hb hs) fun σ H Q q => ?_
  obtain ⟨B, F, A, ρ, S, q⟩ := q
  have q := Go.bnd q
  refine ⟨B, F, A, ρ, S, q.mono (fun o ρ' k y F1 H1 A1 S1 f1 r1 => ?_) fun _ _ k => k⟩
  have k := Go.bnd k
  refine ⟨B, F1, A1, ρ', S1, k.mono (fun ss ρ2 k xs F2 H2 A2 S2 f2 r2 => ?_) fun p ρ2 k c d F2 H2 A2 S2 f2 e2 => k c d F2 H2 A2 S2 (f1.trans f2) e2⟩
  exact (show okOs Θ P B F H A σ Q (o :: ss) ρ2 from k) (y :: xs) F2 H2 A2 S2 (f1.trans f2) ⟨y, xs, rfl, r1.on f2.ext, r2⟩
theorem ResOs.tps (S : Sta Θ.K P B F1 H1 A1 ρ' σ) : ∀ {os : List Opd} {xs : List V} {ps : List PV}, ResOs Θ F1 σ os xs → getAll ρ' os = some ps → Tps Θ F1 H1 ps xs
  | [], xs, ps, h, e => by cases e; exact h
  | o :: os, xs, ps, h, e => by
    obtain ⟨y, r, rfl, h1, h2⟩ := h
    have e : (match o.get ρ', getAll ρ' os with
      | some v, some vs => some (v :: vs)
      | _, _ => none) = some ps := e
    cases hg : o.get ρ' with
    | none => rw [hg] at e; cases e
    | some p =>
      cases hs : getAll ρ' os with
      | none => rw [hg, hs] at e; cases e
      | some qs =>
        rw [hg, hs] at e
        cases e
        exact ⟨y, r, rfl, ResO.tp h1 (Evl.Ex.refl _) S hg, ResOs.tps S h2 hs⟩
theorem tNV {f : List PV → Option SV} {ra : Rho → Rr (List Opd)} {Q : VK} (h : tG Θ (vR (rNV f ra)) P W σ H Q) : tCB (rC Θ f) (tOs Θ ra P W) σ H Q := by
  obtain ⟨B, F, A, ρ, S, q⟩ := h
  have q := Go.bnd (Go.bnd q)
  refine ⟨B, F, A, ρ, S, q.mono (fun os ρ1 k1 xs F1 H1 A1 S1 f1 r1 => ?_) fun _ _ k => k⟩
  cases h1 : getAll ρ1 os with
  | none => rw [h1] at k1; exact k1.elim
  | some ps =>
    rw [h1] at k1
    obtain ⟨s, hs, k1⟩ := Go.of k1
    exact ⟨F1, ps, s, S1.ext, r1.tps S1 h1, hs, Mk.of S1 f1 k1⟩
theorem CallR.weak {f : Value} {r r' : List V → Hp → VK → Prop} (h : CallR X f r) (w : ∀ xs H Q, r' xs H Q → r xs H Q) : CallR X f r' := fun pins s σ H xs us Q I rs q => h pins s σ H xs us Q I rs (w _ _ _ q)
theorem MtR.weak {id : String} {r r' : V → List V → Hp → VK → Prop} (h : MtR X id r) (w : ∀ x xs H Q, r' x xs H Q → r x xs H Q) : MtR X id r' := fun pins s σ H x xs v us Q I r1 rs q => h pins s σ H x xs v us Q I r1 rs (w _ _ _ _ q)
theorem blt_ok {f : List PV → Option SV} {ra : Rho → Rr (List Opd)} {nm : Str} {p : Pos} {e : Expr} {es : List Expr} {id : String} (hc : CallR X (.builtin id) (rC Θ f)) (hg : Gl X nm) (hm : X.mg nm = none) (hv : bootBuiltins nm = some (.builtin id)) (ha : PA X (e :: es) (tOs Θ ra P W)) (hn : nm ≠ "__name__") (hdb : (nm == ("__debug__" : Str)) = false)
    (he : starEach (e :: es) X.env = (false, eval e X.env) :: starEach es X.env) (hpl : (backTo pos (starEach es X.env)).any (·.1) = false) : PE X (.Call (.Name nm p) (e :: es) [] pos) (tG Θ (vR (rNV f ra)) P W) :=
  PE.weak (pe_callB hc hg hm hv ha hn hdb he hpl) fun _ _ _ q => tNV q
theorem bty_ok {f : List PV → Option SV} {ra : Rho → Rr (List Opd)} {nm : Str} {p : Pos} {e : Expr} {es : List Expr} {ty : String} (hc : CallR X (.type ty) (rC Θ f)) (hg : Gl X nm) (hm : X.mg nm = none) (hv : bootBuiltins nm = some (.type ty)) (ha : PA X (e :: es) (tOs Θ ra P W)) (hn : nm ≠ "__name__") (hdb : (nm == ("__debug__" : Str)) = false)
    (he : starEach (e :: es) X.env = (false, eval e X.env) :: starEach es X.env) (hpl : (backTo pos (starEach es X.env)).any (·.1) = false) : PE X (.Call (.Name nm p) (e :: es) [] pos) (tG Θ (vR (rNV f ra)) P W) :=
  PE.weak (pe_callTy hc hg hm hv ha hn hdb he hpl) fun _ _ _ q => tNV q

/-! ### len, list, tuple, abs, int, all, any -/
theorem tps1 {p : PV} {xs : List V} (h : Tps Θ F H [p] xs) : ∃ x, xs = [x] ∧ Tp (Θ := Θ) F H p x := by
  obtain ⟨x, r, rfl, h1, rfl⟩ := h
  exact ⟨x, rfl, h1⟩
theorem tp_seq (hK : X.K = Θ.K) (e : Evl.Ex F H) {xs : List PV} {p : PV} (hp : p = .lst xs ∨ p = .tup xs) (t : Tp (Θ := Θ) F H p v) : ∃ a vs, v = .ref a ∧ Reps Θ.K F xs vs ∧ ((p = .lst xs ∧ H a = some (.lst vs)) ∨ (p = .tup xs ∧ SqT X.K H a vs)) := by
  rcases hp with rfl | rfl
  · obtain ⟨a, vs, rfl, h1, h2⟩ := t
    exact ⟨a, vs, rfl, h2, .inl ⟨rfl, h1⟩⟩
  · have t : Rep Θ.K F (.tup xs) v := t
    simp only [Rep] at t
    obtain ⟨a, vs, rfl, h1, h2⟩ := t
    exact ⟨a, vs, rfl, h2, .inr ⟨rfl, by rw [hK]; exact Evl.ex_t e h1⟩⟩
theorem tp_sq (hK : X.K = Θ.K) (e : Evl.Ex F H) {xs : List PV} {p : PV} (hp : p = .lst xs ∨ p = .tup xs) (t : Tp (Θ := Θ) F H p v) : ∃ a vs, v = .ref a ∧ Reps Θ.K F xs vs ∧ (SqL X.K H a vs ∨ SqT X.K H a vs) := by
  obtain ⟨a, vs, h1, h2, h3⟩ := tp_seq hK e hp t
  refine ⟨a, vs, h1, h2, ?_⟩
  rcases h3 with ⟨_, h⟩ | ⟨_, h⟩
  · exact .inl (SqL.of h)
  · exact .inr h
theorem Reps.ofIntsV {ns : List Int} {vs : List V} (h : vs = ns.map V.int) : vs.length = ns.length := by rw [h]; simp
theorem tp_scr (hK : X.K = Θ.K) (e : Evl.Ex F H) {ns : List Int} (t : Tp (Θ := Θ) F H (.scr ns) v) : ∃ a, v = .ref a ∧ SqL X.K H a (ns.map V.int) := by
  have t : Rep Θ.K F (.scr ns) v := t
  simp only [Rep] at t
  obtain ⟨a, rfl, h⟩ := t
  exact ⟨a, rfl, by rw [hK]; exact Evl.ex_l e h⟩
theorem cr_len (hK : X.K = Θ.K) : CallR X (.builtin "len") (rC Θ (bltPV .len)) := by
  refine CallR.weak call_len_seq fun xs H Q ⟨F, ps, s, e, h, hf, k⟩ => ?_
  match ps, hf, h with
  | [.lst ys], hf, h =>
    cases hf
    obtain ⟨x, rfl, t⟩ := tps1 h
    obtain ⟨a, vs, rfl, r, q⟩ := tp_sq hK e (.inl rfl) t
    refine ⟨a, vs, rfl, q, ?_⟩
    rw [← r.len]; exact k.1 _ rep_int ⟨_, rfl⟩
  | [.tup ys], hf, h =>
    cases hf
    obtain ⟨x, rfl, t⟩ := tps1 h
    obtain ⟨a, vs, rfl, r, q⟩ := tp_sq hK e (.inr rfl) t
    refine ⟨a, vs, rfl, q, ?_⟩
    rw [← r.len]; exact k.1 _ rep_int ⟨_, rfl⟩
  | [.scr ns], hf, h =>
    cases hf
    obtain ⟨x, rfl, t⟩ := tps1 h
    obtain ⟨a, rfl, q⟩ := tp_scr hK e t
    refine ⟨a, _, rfl, .inl q, ?_⟩
    rw [List.length_map]; exact k.1 _ rep_int ⟨_, rfl⟩
theorem cr_list (hK : X.K = Θ.K) : CallR X (.type "list") (rC Θ (bltPV .list)) := by
  refine CallR.weak call_list_of fun xs H Q ⟨F, ps, s, e, h, hf, k⟩ => ?_
  match ps, hf, h with
  | [.lst ys], hf, h =>
    cases hf
    obtain ⟨x, rfl, t⟩ := tps1 h
    obtain ⟨a, vs, rfl, r, q⟩ := tp_sq hK e (.inl rfl) t
    exact ⟨a, vs, rfl, q, fun l hl => k.2 l vs hl r⟩
  | [.tup ys], hf, h =>
    cases hf
    obtain ⟨x, rfl, t⟩ := tps1 h
    obtain ⟨a, vs, rfl, r, q⟩ := tp_sq hK e (.inr rfl) t
    exact ⟨a, vs, rfl, q, fun l hl => k.2 l vs hl r⟩
theorem cr_tuple (hK : X.K = Θ.K) : CallR X (.type "tuple") (rC Θ (bltPV .tuple)) := by
  refine CallR.weak call_tuple_of fun xs H Q ⟨F, ps, s, e, h, hf, k⟩ => ?_
  match ps, hf, h with
  | [.lst ys], hf, h =>
    cases hf
    obtain ⟨x, rfl, t⟩ := tps1 h
    obtain ⟨a, vs, rfl, r, q⟩ := tp_seq hK e (.inl rfl) t
    rcases q with ⟨_, q⟩ | ⟨z, _⟩
    · exact ⟨a, vs, rfl, .inl ⟨SqL.of q, fun l hl => k.2 l vs hl r⟩⟩
    · cases z
  | [.tup ys], hf, h =>
    cases hf
    obtain ⟨x, rfl, t⟩ := tps1 h
    have t' : Rep Θ.K F (.tup ys) x := t
    obtain ⟨a, vs, rfl, r, q⟩ := tp_seq hK e (.inr rfl) t
    rcases q with ⟨z, _⟩ | ⟨_, q⟩
    · cases z
    · exact ⟨a, vs, rfl, .inr ⟨q, k.1 _ t' ⟨_, rfl⟩⟩⟩
theorem cr_abs : CallR X (.builtin "abs") (rC Θ (bltPV .abs)) := by
  refine CallR.weak call_abs fun xs H Q ⟨F, ps, s, e, h, hf, k⟩ => ?_
  match ps, hf, h with
  | [.int i], hf, h =>
    cases hf
    obtain ⟨x, rfl, t⟩ := tps1 h
    exact ⟨i, by rw [tp_int t], k.1 _ rep_int ⟨_, rfl⟩⟩
theorem cr_int : CallR X (.type "int") (rC Θ (bltPV .int)) := by
  refine CallR.weak call_int1 fun xs H Q ⟨F, ps, s, e, h, hf, k⟩ => ?_
  match ps, hf, h with
  | [.int i], hf, h =>
    cases hf
    obtain ⟨x, rfl, t⟩ := tps1 h
    exact .inl ⟨i, by rw [tp_int t], k.1 _ rep_int ⟨_, rfl⟩⟩
theorem reps_bls : ∀ {xs : List PV} {bs : List Bool} {vs : List V}, allBl xs = some bs → Reps Θ.K F xs vs → vs = bs.map V.bl
  | [], bs, vs, h, r => by cases h; simpa [Reps] using r
  | p :: ps, bs, vs, h, r => by
    cases p with
    | bl b =>
      have h : (allBl ps).map (b :: ·) = some bs := h
      cases hs : allBl ps with
      | none => rw [hs] at h; cases h
      | some cs =>
        rw [hs] at h; cases h
        simp only [Reps] at r
        obtain ⟨v, w, rfl, h1, h2⟩ := r
        rw [show v = .bl b by simpa [Rep] using h1, reps_bls hs h2]; rfl
    | _ => cases h
theorem cr_allP (hK : X.K = Θ.K) (hc : X.calm = true) : CallR X (.builtin "all") (rC Θ (bltPV .all)) := by
  refine CallR.weak (cr_all hc) fun xs H Q ⟨F, ps, s, e, h, hf, k⟩ => ?_
  match ps, hf, h with
  | [.lst ys], hf, h =>
    have hf : (allBl ys).map (fun bs => SV.shr (.bl (bs.all id))) = some s := hf
    cases hs : allBl ys with
    | none => rw [hs] at hf; cases hf
    | some bs =>
      rw [hs] at hf; cases hf
      obtain ⟨x, rfl, t⟩ := tps1 h
      obtain ⟨a, vs, rfl, q, r⟩ := t
      rw [reps_bls hs r] at q
      exact ⟨a, bs, rfl, SqL.of q, k.1 _ rep_bl ⟨_, rfl⟩⟩
theorem cr_anyP (hK : X.K = Θ.K) (hc : X.calm = true) : CallR X (.builtin "any") (rC Θ (bltPV .any)) := by
  refine CallR.weak (cr_any hc) fun xs H Q ⟨F, ps, s, e, h, hf, k⟩ => ?_
  match ps, hf, h with
  | [.lst ys], hf, h =>
    have hf : (allBl ys).map (fun bs => SV.shr (.bl (bs.any id))) = some s := hf
    cases hs : allBl ys with
    | none => rw [hs] at hf; cases hf
    | some bs =>
      rw [hs] at hf; cases hf
      obtain ⟨x, rfl, t⟩ := tps1 h
      obtain ⟨a, vs, rfl, q, r⟩ := t
      rw [reps_bls hs r] at q
      exact ⟨a, bs, rfl, SqL.of q, k.1 _ rep_bl ⟨_, rfl⟩⟩
end
end KL
end
section
set_option Elab.async false
set_option linter.all false
set_option maxRecDepth 100000
/-! KA10: sorting. -/
namespace KL
open PySem PySem.Spec PyProof.Rows L2
open PySem.W (EachIs AllAlike Sortable dataLe)
mutual
theorem reads_lt {h : Heap} : ∀ (d : PyData) (v : Value) (as : List Addr), PySem.W.alike d d = true → Reads h v d as → ∀ a ∈ as, a < h.objs.size
  | .none, _, _, _, r => by cases r; exact fun _ z => nomatch z
  | .bool _, _, _, _, r => by cases r; exact fun _ z => nomatch z
  | .int _, _, _, _, r => by cases r; exact fun _ z => nomatch z
  | .str _, _, _, _, r => by cases r; exact fun _ z => nomatch z
  | .list xs, _, _, q, r => by
    cases r with
    | list h1 h2 h3 h4 =>
      intro a ha
      rcases List.mem_cons.mp ha with e | ha
      · rw [e]; exact Heap.lt_size h1
      · exact readsAll_lt xs _ _ (by simpa [PySem.W.alike] using q) h4 a ha
  | .tuple xs, _, _, q, r => by
    cases r with
    | tuple h1 h2 h3 h4 => exact readsAll_lt xs _ _ (by simpa [PySem.W.alike] using q) h4
  | .dict _, _, _, q, _ => absurd q (by simp [PySem.W.alike])
theorem readsAll_lt {h : Heap} : ∀ (ds : List PyData) (vs : List Value) (as : List Addr), PySem.W.alikeAll ds ds = true → ReadsAll h vs ds as → ∀ a ∈ as, a < h.objs.size
  | [], _, _, _, r => by cases r; exact fun _ z => nomatch z
  | d :: ds, _, _, q, r => by
    cases r with
    | cons h1 h2 =>
      intro a ha
      rcases List.mem_append.mp ha with ha | ha
      · exact reads_lt d _ _ (PySem.W.alike_all_cons q).1 h1 a ha
      · exact readsAll_lt ds _ _ (PySem.W.alike_all_cons q).2 h2 a ha
end
section
variable {prog : Program} {w : World} {A : Around} {E : Value → Shared → Prop} {s : Shared} {β : Type} {vs : List Value} {bs : List β} {enc : β → PyData} {R : Value → β → Prop}
theorem sorted_seq {l : Addr} {T : String} {o : Obj} {n : Nat} {Q : Value → Shared → Prop} (hT : T = "list" ∨ T = "tuple") (ho : s.heap.get? l = some o) (hc : o.cls = .type T) (hd : o.data = .seq vs.toArray n)
    (e : EachIs R vs bs) (er : EachIs (fun v b => ∃ as, Reads s.heap v (enc b) as) vs bs) (hal : AllAlike (bs.map enc)) (hk : Sortable (bs.map enc)) (hL : bs.length ≤ sizeLine) (hu : ∀ b, b ∈ bs → A.units + 2 + (enc b).depth < cLine)
    (h : ∀ (h1 h2 : Heap) (out : List Value), (∀ b o, s.heap.get? b = some o → h1.get? b = some o) → (∀ b o, h1.get? b = some o → h2.get? b = some o) → (∃ n, h2.get? h1.objs.size = some (seqObj "list" out.toArray n)) → EachIs R out (bs.mergeSort (dataLe false enc)) → Q (.ref h1.objs.size) { s with heap := h2 }) :
    wpAny (model prog w) A (call (.builtin "sorted") [.ref l]) Q E s := by
  refine Calls.call_function_entry kind_sorted plain_sorted entry_sorted (args_sorted1 _) ?_
  unfold Builtin.«sorted»
  refine wpAny_bind (m := checkCount "sorted" 1 1 _) (wpAny_pure ?_)
  have hl : vs.length = bs.length := e.length
  refine wpAny_bind (wpAny_collect_seq l hT ho hc hd (fun h' hk' => ?_) (by rw [List.size_toArray, hl]; exact hL))
  refine wpAny_bind (wpAny_newList ?_ (by show vs.length ≤ sizeLine; rw [hl]; exact hL))
  have hat : (h'.push (seqObj "list" vs.toArray 0)).get? h'.objs.size = some (seqObj "list" vs.toArray 0) := Heap.get?_push_size _ rfl
  have er3 : EachIs (fun v b => (∃ as, Reads s.heap v (enc b) as) ∧ b ∈ bs) vs bs := PySem.W.each_mem er
  have er2 : EachIs (fun v b => ∃ as, Reads (h'.push (seqObj "list" vs.toArray 0)) v (enc b) as ∧ h'.objs.size ∉ as) vs bs := er3.mono fun v b ⟨⟨as, r⟩, hb⟩ => by
    have r2 := PyProof.Rows.Reads.keeps hk' r
    have al := hal _ (List.mem_map.mpr ⟨b, hb, rfl⟩) _ (List.mem_map.mpr ⟨b, hb, rfl⟩)
    exact ⟨as, PyProof.Rows.Reads.keeps (fun b o q => Heap.get?_push_of_some _ q) r2, fun z => Nat.lt_irrefl _ (reads_lt _ _ _ al r2 _ z)⟩
  refine wpAny_bind (wpAny_holding (PySem.W.list_sort_data (n := 0) (s := { s with heap := h'.push (seqObj "list" vs.toArray 0) }) hat e er2 hal hk hL (fun b hb => hu b hb) fun out hlo eo => ?_))
  refine wpAny_pure ⟨_, rfl, ?_⟩
  obtain ⟨ep, he⟩ := PyProof.Rows.sortedHeap_at (vs := vs) (out := out.toArray) hat
  refine h h' _ out hk' (fun b o q => ?_) ⟨ep, he⟩ eo
  have lt := Heap.lt_size q
  rw [PyProof.Rows.sortedHeap_old (Nat.ne_of_lt lt) (show b < (h'.push (seqObj "list" vs.toArray 0)).objs.size from by rw [PyProof.Rows.size_push']; exact Nat.lt_succ_of_lt lt)]
  exact Heap.get?_push_of_some _ q
end
/-! sorted(xs), data -/
theorem each_of_vals {h : Heap} {β : Type} : ∀ {xs : List V} {us : List Value} {bs : List β}, xs.length = bs.length → Vals xs us → EachIs (fun v (b : V × β) => RelV b.1 v) us (xs.zip bs)
  | [], _, [], _, .nil => .nil
  | x :: xs, _, b :: bs, e, .cons r t => .cons r (each_of_vals (h := h) (by simpa using e) t)
theorem vals_each {β : Type} : ∀ {us : List Value} {bs : List (V × β)}, EachIs (fun v (b : V × β) => RelV b.1 v) us bs → Vals (bs.map Prod.fst) us
  | _, _, .nil => .nil
  | _, _, .cons r t => .cons r (vals_each t)
theorem each_and {α β : Type} {R : α → β → Prop} {S : β → Prop} : ∀ {as : List α} {bs : List β}, EachIs R as bs → (∀ b ∈ bs, S b) → EachIs (fun a b => R a b ∧ S b) as bs
  | _, _, .nil, _ => .nil
  | _, _, .cons r t, h => .cons ⟨r, h _ (by simp)⟩ (each_and t fun b hb => h b (by simp [hb]))
theorem zip_rep {Θ : Pm} {F : Hp} : ∀ {ps : List PV} {xs : List V}, Reps Θ.K F ps xs → ∀ b ∈ xs.zip ps, Rep Θ.K F b.2 b.1
  | [], xs, h, b, hb => by simp at hb
  | p :: ps, xs, h, b, hb => by
    simp only [Reps] at h
    obtain ⟨v, r, rfl, h1, h2⟩ := h
    rw [List.zip_cons_cons] at hb
    rcases List.mem_cons.mp hb with rfl | hb
    · exact h1
    · exact zip_rep h2 b hb
theorem reps_of_zip {Θ : Pm} {F : Hp} : ∀ {bs : List (V × PV)}, (∀ b ∈ bs, Rep Θ.K F b.2 b.1) → Reps Θ.K F (bs.map Prod.snd) (bs.map Prod.fst)
  | [], _ => Reps.nil
  | b :: bs, h => .cons (h b (by simp)) (reps_of_zip fun c hc => h c (by simp [hc]))
def datLe (p q : PV) : Bool := dataLe false dat p q
section
variable {Θ : Pm} {X : Cx} {F H : Hp}
/-- what sorted gives of items that stand still -/
def rSortD (Θ : Pm) : List V → Hp → VK → Prop := fun xs H Q => ∃ (F : Hp) (a : Addr) (ps : List PV) (vs : List V), Evl.Ex F H ∧ xs = [.ref a] ∧ Reps Θ.K F ps vs ∧ (SqL Θ.K H a vs ∨ SqT Θ.K H a vs) ∧
  dOks 58 ps = true ∧ AllAlike (ps.map dat) ∧ Sortable (ps.map dat) ∧ ∀ p ws, H p = none → Reps Θ.K F (ps.mergeSort datLe) ws → Q (.ref p) (upd H p (.lst ws))
theorem dOks_mem : ∀ {n : Nat} {ps : List PV}, dOks n ps = true → ∀ p ∈ ps, dOk n p = true
  | _, [], _, _, h => nomatch h
  | n, q :: ps, h, p, hp => by
    simp only [dOks, Bool.and_eq_true] at h
    rcases List.mem_cons.mp hp with rfl | hp
    · exact h.1
    · exact dOks_mem h.2 p hp
theorem cr_sortD (hK : X.K = Θ.K) (hu : X.A.units + 65 < cLine) : CallR X (.builtin "sorted") (rSortD Θ) := by
  intro pins s σ H xs us Q I r h
  obtain ⟨F, a, ps, vs, ex, rfl, rp, hs, hd, hal, hk, q⟩ := h
  rw [Vals.ref1 r]
  have hs : ∃ (T : String) (o : Obj) (n : Nat) (its : List Value), (T = "list" ∨ T = "tuple") ∧ s.heap.get? a = some o ∧ o.cls = .type T ∧ o.data = .seq its.toArray n ∧ Vals vs its ∧ vs.length ≤ sizeLine := by
    rcases hs with hs | hs
    · obtain ⟨its, rv, pl, hz⟩ := I.list (by rw [hK]; exact hs)
      obtain ⟨o, ho, hc, n, hd⟩ := pl.isList
      exact ⟨_, o, n, its, .inl rfl, ho, hc, hd, rv, hz⟩
    · obtain ⟨its, rv, pl, hz⟩ := I.tuple (by rw [hK]; exact hs)
      obtain ⟨o, ho, hc, n, hd⟩ := pl
      exact ⟨_, o, n, its, .inr rfl, ho, hc, hd, rv, hz⟩
  obtain ⟨T, o, n, its, hT, ho, hc, hdt, rv, hz⟩ := hs
  have hl : vs.length = ps.length := rp.len.symm
  have hmap : (vs.zip ps).map (fun b => dat b.2) = ps.map dat := by
    rw [show (fun (b : V × PV) => dat b.2) = dat ∘ Prod.snd from rfl, ← List.map_map, List.map_snd_zip (by omega)]
  have e := each_of_vals (h := s.heap) hl rv
  have mem : ∀ b ∈ vs.zip ps, Rep Θ.K F b.2 b.1 ∧ dOk 58 b.2 = true := fun b hb => ⟨zip_rep rp b hb, dOks_mem hd _ (List.of_mem_zip hb).2⟩
  have er : EachIs (fun v (b : V × PV) => ∃ as, Reads s.heap v (dat b.2) as) its (vs.zip ps) := (each_and e mem).mono fun v b ⟨h1, h2, h3⟩ => Dp.reads I (dat b.2) b.1 v (dat_dp hK ex h3 h2) h1
  have hzl : (vs.zip ps).length = vs.length := by rw [List.length_zip]; omega
  refine sorted_seq (bs := vs.zip ps) (enc := fun b => dat b.2) (R := fun v b => RelV b.1 v) hT ho hc hdt e er (by rw [hmap]; exact hal) (by rw [hmap]; exact hk) (by rw [hzl]; exact hz) (fun b hb => ?_) fun h1 h2 out k1 k2 ⟨m, hat⟩ eo => ?_
  · have := (dat_lay (mem b hb).2).2
    omega
  · have I1 : Inv X pins σ H { s with heap := h1 } := I.kept (t' := s.toks) k1
    have vo := vals_each eo
    have hlen : (((vs.zip ps).mergeSort (dataLe false fun b => dat b.2)).map Prod.fst).length ≤ sizeLine := by
      rw [List.length_map, List.length_mergeSort, hzl]; exact hz
    refine ⟨.ref h1.objs.size, _, I1.laid (t' := s.toks) k2 (Nat.le_refl _) (show ObjOk X.prog X.w _ _ _ (.lst (((vs.zip ps).mergeSort (dataLe false fun b => dat b.2)).map Prod.fst)) from ⟨hlen, out, m, vo, hat⟩), rfl, q _ _ (I1.hok.fresh (Nat.le_refl _)) ?_⟩
    have e2 : ((vs.zip ps).mergeSort (dataLe false fun b => dat b.2)).map Prod.snd = ps.mergeSort datLe := by
      rw [PySem.W.sort_maps (r := dataLe false fun (b : V × PV) => dat b.2) (s := datLe) Prod.snd (fun _ _ _ _ => rfl), List.map_snd_zip (by omega)]
    rw [← e2]
    exact reps_of_zip fun b hb => (mem b (List.mem_mergeSort.mp hb)).1

/-! ints, pairs of ints -/
theorem allInt_eq : ∀ {ps : List PV} {ns : List Int}, allInt ps = some ns → ps = ns.map .int
  | [], ns, h => by cases h; rfl
  | p :: ps, ns, h => by
    cases p with
    | int i =>
      have h : (allInt ps).map (i :: ·) = some ns := h
      cases hs : allInt ps with
      | none => rw [hs] at h; cases h
      | some ms => rw [hs] at h; cases h; rw [allInt_eq hs]; rfl
    | _ => cases h
theorem allPair_eq : ∀ {ps : List PV} {ns : List (Int × Int)}, allPair ps = some ns → ps = ns.map fun p => .tup [.int p.1, .int p.2]
  | [], ns, h => by cases h; rfl
  | p :: ps, ns, h => by
    match p, h with
    | .tup [.int i, .int j], h =>
      have h : (allPair ps).map ((i, j) :: ·) = some ns := h
      cases hs : allPair ps with
      | none => rw [hs] at h; cases h
      | some ms => rw [hs] at h; cases h; rw [allPair_eq hs]; rfl
theorem dOks_ints (n : Nat) : ∀ ns : List Int, dOks n (ns.map .int) = true
  | [] => by cases n <;> rfl
  | i :: ns => by
    simp only [List.map_cons, dOks, dOks_ints n ns, Bool.and_true]
    cases n <;> rfl
theorem dOks_pairs (n : Nat) : ∀ ns : List (Int × Int), dOks (n + 1) (ns.map fun p => .tup [.int p.1, .int p.2]) = true
  | [] => rfl
  | i :: ns => by
    have := dOks_pairs n ns
    simp only [List.map_cons, dOks, this, Bool.and_true]
    cases n <;> rfl
theorem sortPV_ok {ps qs : List PV} (h : sortPV ps = some qs) : dOks 58 ps = true ∧ AllAlike (ps.map dat) ∧ Sortable (ps.map dat) ∧ ps.mergeSort datLe = qs := by
  unfold sortPV at h
  cases h1 : allInt ps with
  | some ns =>
    rw [h1] at h; cases h
    have e := allInt_eq h1
    subst e
    refine ⟨dOks_ints _ _, ?_, ?_, ?_⟩
    · rw [List.map_map]; exact AllAlike.of fun _ _ => rfl
    · rw [List.map_map]; exact Sortable.others fun b => ⟨(fun z => nomatch z), (fun _ z => nomatch z)⟩
    · refine (PySem.W.sort_maps PV.int fun a _ b _ => ?_).symm
      have e := congrFun (congrFun (PySem.W.dataLe_int (β := Int) id) a) b
      exact e.symm
  | none =>
    rw [h1] at h
    cases h2 : allPair ps with
    | none => rw [h2] at h; cases h
    | some ns =>
      rw [h2] at h; cases h
      have e := allPair_eq h2
      subst e
      refine ⟨dOks_pairs 57 _, ?_, ?_, ?_⟩
      · rw [List.map_map]; exact AllAlike.of fun _ _ => rfl
      · rw [List.map_map]; exact Sortable.tuples fun b => ⟨_, _, rfl⟩
      · refine (PySem.W.sort_maps (fun p : Int × Int => PV.tup [.int p.1, .int p.2]) fun a _ b _ => ?_).symm
        have e := congrFun (congrFun (PySem.W.dataLe_ii (β := Int × Int) Prod.fst Prod.snd) a) b
        refine Eq.trans ?_ e.symm
        unfold pairLe
        by_cases q1 : a.1 < b.1 <;> by_cases q2 : a.1 = b.1 <;> by_cases q3 : a.2 ≤ b.2 <;> simp [q1, q2, q3]
theorem cr_sorted (hK : X.K = Θ.K) (hu : X.A.units + 65 < cLine) : CallR X (.builtin "sorted") (rC Θ (bltPV .sorted)) := by
  refine CallR.weak (cr_sortD hK hu) fun xs H Q ⟨F, ps, s, e, h, hf, k⟩ => ?_
  have go : ∀ {p : PV} {ys : List PV}, (p = .lst ys ∨ p = .tup ys) → Tps Θ F H [p] xs → (sortPV ys).map (fun zs => SV.own (.lst zs)) = some s → rSortD Θ xs H Q := fun {p ys} hp h hf => by
    obtain ⟨x, rfl, t⟩ := tps1 h
    obtain ⟨a, vs, rfl, r, q⟩ := tp_sq hK e hp t
    cases hs : sortPV ys with
    | none => rw [hs] at hf; cases hf
    | some zs =>
      rw [hs] at hf; cases hf
      obtain ⟨h1, h2, h3, h4⟩ := sortPV_ok hs
      exact ⟨F, a, ys, vs, e, rfl, r, by rw [← hK]; exact q, h1, h2, h3, fun p ws hp hr => k.2 p ws hp (by rw [← h4]; exact hr)⟩
  match ps, hf, h with
  | [.lst ys], hf, h => exact go (.inl rfl) h hf
  | [.tup ys], hf, h => exact go (.inr rfl) h hf
end
end KL
end
section
set_option Elab.async false
set_option linter.all false
set_option maxRecDepth 100000
/-! KA11: isinstance, index, list(range), list(reversed). -/
namespace KL
open PySem PySem.Spec PyProof.Rows L2
def tyN : Tyk → String
  | .int => "int" | .bool => "bool" | .str => "str" | .list => "list" | .tuple => "tuple" | .dict => "dict"
section
variable {Θ : Pm} {g : Gm} {P : List Nat} {W : WX} {X : Cx} {x : Expr} {B F F' F0 F1 F2 H H' H0 H1 H2 : Hp} {A A' A0 A1 A2 : Ad} {T T1 T2 U : List Addr} {ρ ρ' : Rho} {σ : L2.St} {a : Addr} {i : Nat} {v : V} {pos : Pos} {o : Opd}
theorem tyx_tup {vs : List V} (h : SqT X.K H a vs) : TyX X.K H (.ref a) (.type "tuple") := by
  rcases h with (h | ⟨o, h⟩) | ⟨o, its, n, h1, h2, _⟩
  · exact .base (.tup h)
  · exact .fTuple h
  · exact .kTuple h1 h2
theorem isi_spec (hK : X.K = Θ.K) (ex : Evl.Ex F H) {t : Tyk} {p : PV} {b : Bool} (h : tyPV t p = some b) (tp : Tp (Θ := Θ) F H p v) : ∃ ty, TyX X.K H v ty ∧ PySem.W.kitOne X.K ty (.type (tyN t)) = some b := by
  have lst : ∀ {xs : List PV}, p = .lst xs → TyX X.K H v (.type "list") := fun {xs} e => by
    subst e
    obtain ⟨a, vs, rfl, h1, _⟩ := tp
    exact .base (.lst h1)
  have tup : ∀ {xs : List PV}, p = .tup xs → TyX X.K H v (.type "tuple") := fun {xs} e => by
    subst e
    obtain ⟨a, vs, rfl, _, q⟩ := tp_seq hK ex (.inr rfl) tp
    rcases q with ⟨z, _⟩ | ⟨_, q⟩
    · cases z
    · exact tyx_tup q
  have int : ∀ {n : Int}, p = .int n → TyX X.K H v (.type "int") := fun {n} e => by subst e; rw [tp_int tp]; exact .base (.int n)
  have bl : ∀ {n : Bool}, p = .bl n → TyX X.K H v (.type "bool") := fun {n} e => by
    subst e; rw [show v = .bl n by simpa [Tp, Rep] using tp]; exact .base (.bl n)
  have non : p = .non → TyX X.K H v (.type "NoneType") := fun e => by
    subst e; rw [show v = .non by simpa [Tp, Rep] using tp]; exact .base .non
  match t, p, h with
  | .list, .lst _, h => cases h; exact ⟨_, lst rfl, kit_ty (by decide +kernel)⟩
  | .list, .tup _, h => cases h; exact ⟨_, tup rfl, kit_ty (by decide +kernel)⟩
  | .list, .int _, h => cases h; exact ⟨_, int rfl, kit_ty (by decide +kernel)⟩
  | .list, .non, h => cases h; exact ⟨_, non rfl, kit_ty (by decide +kernel)⟩
  | .tuple, .tup _, h => cases h; exact ⟨_, tup rfl, kit_ty (by decide +kernel)⟩
  | .tuple, .lst _, h => cases h; exact ⟨_, lst rfl, kit_ty (by decide +kernel)⟩
  | .tuple, .int _, h => cases h; exact ⟨_, int rfl, kit_ty (by decide +kernel)⟩
  | .bool, .bl _, h => cases h; exact ⟨_, bl rfl, kit_ty (by decide +kernel)⟩
  | .bool, .int _, h => cases h; exact ⟨_, int rfl, kit_ty (by decide +kernel)⟩
theorem isi_ok (hK : X.K = Θ.K) {t : Tyk} {r : Rho → Rr Opd} {nm : Str} {p p2 : Pos} (hg : Gl X "isinstance") (hm : X.mg "isinstance" = none) (hg2 : Gl X nm) (hm2 : X.mg nm = none) (hb2 : bootBuiltins nm = some (.type (tyN t))) (hn2 : nm ≠ "__name__") (hd2 : (nm == ("__debug__" : Str)) = false)
    (hx : PE X x (tO Θ r P W)) (he : starEach [x, .Name nm p2] X.env = (false, eval x X.env) :: starEach [.Name nm p2] X.env) (hpl : (backTo pos (starEach [.Name nm p2] X.env)).any (·.1) = false) :
    PE X (.Call (.Name "isinstance" p) [x, .Name nm p2] [] pos) (tG Θ (vR (rNV (bltPV (.isi t)) fun ρ => (r ρ).bnd fun o ρ => (Rr.ok [] ρ).bnd fun os ρ => .ok (o :: os) ρ)) P W) := by
  have hN : PE X (.Name nm p2) (tC (.ty (tyN t))) := pe_bltn hg2 hm2 hb2 rfl hn2 hd2
  refine PE.weak (pe_callB call_isi hg hm PyProof.Rows.boot_isinstance (pa_cons hx (pa_cons hN pa_nil (by rfl)) he) (by decide) (by decide) he hpl) fun σ H Q q => ?_
  obtain ⟨B, F, A, ρ, S, q⟩ := q
  have q := Go.bnd (Go.bnd (Go.bnd q))
  refine ⟨B, F, A, ρ, S, q.mono (fun o ρ' k y F' H' A' S' f r => ?_) fun _ _ k => k⟩
  have k : Go (match getAll ρ' [o] with
    | some vs => Rr.of (bltPV (.isi t) vs) ρ'
    | none => .bad) (fun v ρ => okE Θ P B F H A σ Q (.imm v) ρ) (exE Θ P B F H A σ W) := k
  have eg : getAll ρ' [o] = (match o.get ρ' with | some v => some [v] | none => none) := by
    show (match o.get ρ', some [] with
      | some v, some vs => some (v :: vs)
      | _, _ => none) = _
    cases o.get ρ' <;> rfl
  rw [eg] at k
  cases hgv : o.get ρ' with
  | none => rw [hgv] at k; exact k.elim
  | some pv =>
    rw [hgv] at k
    obtain ⟨s, hs, k⟩ := Go.of (show Go (Rr.of (bltPV (.isi t) [pv]) ρ') _ _ from k)
    have hs : (tyPV t pv).map (fun b => SV.shr (.bl b)) = some s := hs
    cases hb : tyPV t pv with
    | none => rw [hb] at hs; cases hs
    | some b =>
      rw [hb] at hs; cases hs
      obtain ⟨ty, h1, h2⟩ := isi_spec hK S'.ext hb (ResO.tp r (Evl.Ex.refl _) S' hgv)
      exact ⟨y, .ty (tyN t), ty, .type (tyN t), b, rfl, .ty _, h1, h2, (Mk.of S' f k).1 _ rep_bl ⟨_, rfl⟩⟩

/-! ### xs.index(y) -/
theorem idxP_spec {y : PV} : ∀ {xs : List PV} {k : Nat}, idxP y xs = some k → xs[k]? = some y ∧ ∀ m, m < k → xs[m]? ≠ some y
  | [], k, h => by cases h
  | x :: xs, k, h => by
    unfold idxP at h
    split at h
    · rename_i e
      cases h
      exact ⟨by simp [e], fun m hm => by omega⟩
    · rename_i e
      cases hs : idxP y xs with
      | none => rw [hs] at h; cases h
      | some j =>
        rw [hs] at h; cases h
        obtain ⟨h1, h2⟩ := idxP_spec hs
        refine ⟨by simpa using h1, fun m hm => ?_⟩
        have hm : m < j + 1 := hm
        cases m with
        | zero => simpa using e
        | succ m => simpa using h2 m (by omega)
theorem dats_get : ∀ (ps : List PV) (i : Nat), (dats ps)[i]? = (ps[i]?).map dat
  | [], i => by simp [dats]
  | p :: ps, 0 => by simp [dats]
  | p :: ps, i + 1 => by simpa [dats] using dats_get ps i
theorem posPV_some {y : PV} {xs : List PV} {k : Nat} (h : posPV y xs = some k) : dOk 59 y = true ∧ dOks 59 xs = true ∧ (∀ x ∈ xs, cmpb x y = true) ∧ idxP y xs = some k := by
  unfold posPV at h
  split at h
  · rename_i q
    simp only [Bool.and_eq_true] at q
    exact ⟨q.1.1, q.1.2, fun x hx => List.all_eq_true.mp q.2 x hx, h⟩
  · cases h
theorem index_ok (hK : X.K = Θ.K) (hu : X.A.units + 65 < cLine) {ro : Rho → Rr Opd} {ra : Rho → Rr (List Opd)} {e oe : Expr} {es : List Expr} {apos : Pos} (ho : PE X oe (tO Θ ro P W)) (ha : PA X (e :: es) (tOs Θ ra P W))
    (hbase : attributeBase oe "index" X.env (eval oe X.env) = eval oe X.env)
    (hfew : ((backTo pos (starEach (e :: es) X.env)).all (fun x => !x.1) && (backToKw pos (keywordEach [] X.env)).all (fun x => x.1.isSome)
      && decide ((e :: es).length + ([] : List Keyword).length + (if ([] : List Keyword).isEmpty then 0 else 1) < 30)) = true)
    (hline : (apos.endLine == pos.line) = true) (hs : starEach (e :: es) X.env = (false, eval e X.env) :: starEach es X.env) (hplain : (backTo pos (starEach es X.env)).any (·.1) = false) :
    PE X (.Call (.Attribute oe "index" apos) (e :: es) [] pos) (tG Θ (vR fun ρ => (ro ρ).bnd fun x ρ => if rcvOk .index (x.get ρ) then (ra ρ).bnd fun os ρ => (match x.get ρ, getAll ρ os with
      | some x, some vs => Rr.of (mthPV .index x vs) ρ
      | _, _ => .bad) else .bad) P W) := by
  refine PE.weak (pe_bm PySem.F.plainAttrs_list PySem.F.slot_list_index (by rfl) (mt_indexD hu) ho ha hbase hfew hline hs hplain) fun σ H Q q => ?_
  obtain ⟨B, F, A, ρ, S, q⟩ := q
  have q := Go.bnd (Go.bnd q)
  refine ⟨B, F, A, ρ, S, q.mono (fun o ρ1 k1 y F1 H1 A1 S1 f1 r1 => ?_) fun _ _ k => k⟩
  cases hr : rcvOk .index (o.get ρ1) with
  | false => rw [hr] at k1; exact k1.elim
  | true =>
    rw [hr] at k1
    have lst : ∃ xs, o.get ρ1 = some (.lst xs) := by
      cases hg : o.get ρ1 with
      | none => rw [hg] at hr; cases hr
      | some p => rw [hg] at hr; cases p <;> first | exact ⟨_, rfl⟩ | cases hr
    obtain ⟨zs, hz⟩ := lst
    obtain ⟨a, ws, rfl, q1, q2⟩ := ResO.tp r1 (Evl.Ex.refl _) S1 hz
    refine ⟨.inl ⟨rfl, ws, SqL.of q1⟩, ?_⟩
    have k1 := Go.bnd (show Go ((ra ρ1).bnd fun os ρ => (match o.get ρ, getAll ρ os with
      | some x, some vs => Rr.of (mthPV .index x vs) ρ
      | _, _ => .bad)) _ _ from k1)
    refine ⟨B, F1, A1, ρ1, S1, k1.mono (fun os ρ2 k2 xs F2 H2 A2 S2 f2 r2 => ?_) fun p ρ2 k c d F2 H2 A2 S2 f2 e2 => k c d F2 H2 A2 S2 (f1.trans f2) e2⟩
    cases h1 : o.get ρ2 with
    | none => rw [h1] at k2; exact k2.elim
    | some p =>
      cases h2 : getAll ρ2 os with
      | none => rw [h1, h2] at k2; exact k2.elim
      | some ps =>
        rw [h1, h2] at k2
        obtain ⟨s, hs, k2⟩ := Go.of k2
        have t1 := ResO.tp r1 f2.ext S2 h1
        have t2 := r2.tps S2 h2
        match p, ps, hs, t1, t2 with
        | .lst ys, [y], hs, t1, t2 =>
          have hs : (posPV y ys).map (fun k => SV.shr (.int k)) = some s := hs
          cases hp : posPV y ys with
          | none => rw [hp] at hs; cases hs
          | some k =>
            rw [hp] at hs; cases hs
            obtain ⟨d1, d2, d3, d4⟩ := posPV_some hp
            obtain ⟨i1, i2⟩ := idxP_spec d4
            obtain ⟨yv, rfl, ty⟩ := tps1 t2
            have dp1 := tp_dp hK S2.ext (n := 60) (p := .lst ys) (by simpa [dOk] using d2) t1
            have dp2 := tp_dp hK S2.ext d1 ty
            refine ⟨a, yv, dat y, dats ys, k, dat y, rfl, rfl, dp1, dp2, shaped_lst d2 (by omega), shaped_of d1 (by omega), by rw [dats_get, i1]; rfl, ?_, fun m z hm hz => ?_, (Mk.of S2 (f1.trans f2) k2).1 _ rep_int ⟨_, rfl⟩⟩
            · rw [dat_eqv d1 d1 (by have := d3 y (List.mem_of_getElem? i1); exact this)]; simp
            · rw [dats_get] at hz
              cases hy : ys[m]? with
              | none => rw [hy] at hz; cases hz
              | some w =>
                rw [hy] at hz; cases hz
                have mw := List.mem_of_getElem? hy
                rw [dat_eqv (dOks_mem d2 w mw) d1 (d3 w mw)]
                refine decide_eq_false fun e => ?_
                rw [e] at hy
                exact i2 m hm hy

/-! ### list(range(a, b)) -/
theorem reps_rng {lo : Int} : ∀ (n : Nat), Reps Θ.K F (rngPV lo n) ((List.range n).map fun i => V.int (lo + (i : Nat))) := fun n => by
  unfold rngPV
  induction n with
  | zero => exact Reps.nil
  | succ n ih => rw [List.range_succ, List.map_append, List.map_append]; exact ih.append (.cons rep_int Reps.nil)
theorem listrng_ok (hc : X.calm = true) {ra rb : Rho → Rr Opd} {a b : Expr} {p p2 pos2 : Pos} (hg : Gl X "list") (hm : X.mg "list" = none) (hg2 : Gl X "range") (hm2 : X.mg "range" = none) (ha : PE X a (tO Θ ra P W)) (hb : PE X b (tO Θ rb P W))
    (na : starEach [a, b] X.env = (false, eval a X.env) :: starEach [b] X.env) (nb : starEach [b] X.env = (false, eval b X.env) :: starEach [] X.env) (hp : (backTo pos2 (starEach [b] X.env)).any (·.1) = false)
    (nc : starEach [.Call (.Name "range" p2) [a, b] [] pos2] X.env = (false, eval (.Call (.Name "range" p2) [a, b] [] pos2) X.env) :: starEach [] X.env) :
    PE X (.Call (.Name "list" p) [.Call (.Name "range" p2) [a, b] [] pos2] [] pos) (tG Θ (vR (rNV (bltPV .listrng2) fun ρ => (ra ρ).bnd fun o ρ => ((rb ρ).bnd fun o2 ρ => (Rr.ok [] ρ).bnd fun os ρ => .ok (o2 :: os) ρ).bnd fun os ρ => .ok (o :: os) ρ)) P W) := by
  refine PE.weak (pe_listRg hc hg hm (prg_2 hg2 hm2 ha hb na nb hp) nc) fun σ H Q q => ?_
  obtain ⟨B, F, A, ρ, S, q⟩ := q
  have q := Go.bnd (Go.bnd (Go.bnd q))
  refine ⟨B, F, A, ρ, S, q.mono (fun o ρ1 k1 y F1 H1 A1 S1 f1 r1 => ?_) fun _ _ k => k⟩
  have k1 := Go.bnd (Go.bnd k1)
  refine ⟨B, F1, A1, ρ1, S1, k1.mono (fun o2 ρ2 k2 y2 F2 H2 A2 S2 f2 r2 => ?_) fun p ρ2 k c d F2 H2 A2 S2 f2 e2 => k c d F2 H2 A2 S2 (f1.trans f2) e2⟩
  have k2 : Go (match getAll ρ2 [o, o2] with
    | some vs => Rr.of (bltPV .listrng2 vs) ρ2
    | none => .bad) (fun v ρ => okE Θ P B F H A σ Q (.imm v) ρ) (exE Θ P B F H A σ W) := k2
  cases hga : getAll ρ2 [o, o2] with
  | none => rw [hga] at k2; exact k2.elim
  | some ps =>
    rw [hga] at k2
    obtain ⟨s, hs, k2⟩ := Go.of (show Go (Rr.of (bltPV .listrng2 ps) ρ2) _ _ from k2)
    have r2' : ResOs Θ F2 σ [o, o2] [y, y2] := ⟨y, [y2], rfl, r1.on f2.ext, y2, [], rfl, r2, rfl⟩
    have tt := r2'.tps S2 hga
    match ps, hs, tt with
    | [.int i, .int j], hs, tt =>
      obtain ⟨z1, zr, e1, t1, z2, zr2, e2, t2, e3⟩ := tt
      subst e3
      subst e2
      obtain ⟨rfl, e4⟩ := List.cons.inj e1
      obtain ⟨rfl, _⟩ := List.cons.inj e4
      have hs : (if -(2 ^ 62) ≤ i ∧ i < 2 ^ 62 ∧ -(2 ^ 62) ≤ j ∧ j < 2 ^ 62 ∧ (j - i).toNat ≤ big then some (SV.own (.lst (rngPV i (j - i).toNat))) else none) = some s := hs
      split at hs
      · rename_i hz
        cases hs
        exact ⟨i, j, tp_int t1, tp_int t2, ⟨hz.1, hz.2.1, hz.2.2.1, hz.2.2.2.1, hz.2.2.2.2⟩, fun q hq => (Mk.of S2 (f1.trans f2) k2).2 q _ hq (reps_rng _)⟩
      · cases hs
end
/-! ### list(reversed(xs)) -/
section
variable {prog : Program} {w : World} {A : Around} {E : Value → Shared → Prop} {s : Shared} {it l : Addr} {items : Array Value}
theorem rev_extend {S : Addr} {c₀ : Nat} {res : Value} {R : Result → Shared → Prop} (hh : A.handled = none) (hit : s.heap.IsRevIter it l ((items.size : Int) - 1)) (hl : s.heap.IsList l items) (hne : l ≠ it) (hn : items.size ≤ sizeLine) (hSi : S ≠ it) (hSl : S ≠ l)
    (hS : s.heap.get? S = some { cls := .type "list", data := .seq #[] c₀ })
    (hR : ∀ h' tk acc' c', (∀ b o, b ≠ S → b ≠ it → s.heap.get? b = some o → h'.get? b = some o) → h'.get? S = some { cls := .type "list", dict := none, data := .seq acc' c', slots := #[] } → ItemsOf (fun i v => items[items.size - 1 - i]? = some v) acc' items.size → R (.ok (.ret res)) { s with heap := h', toks := tk }) :
    wpAny (model prog w) A.in1 (Builtin.List.listExtendWith (.ref S) (.ref it) res)
      (fun fin s' => match fin with | .done f => R (.ok f) s' | .again c' => c'.quiet = true ∧ codeAny (model prog w) A c' R s') (fun e s' => R (.error e) s') s := by
  have W := (Walks.listRev (prog := prog) (w := w) (A := A.in1) hh it l hne items).toS
  have hSf : S ∉ [it, l] := by simp only [List.mem_cons, List.not_mem_nil, or_false, not_or]; exact ⟨hSi, hSl⟩
  have hT : s.TypeIs (.ref it) "list_reverseiterator" := hit.typeIs
  have h1 : Builtin.List.listSameRef (.ref S) (.ref it) = false := by simp [Builtin.List.listSameRef, hSi]
  unfold Builtin.List.listExtendWith
  refine wpAny_bind (wpAny_typeOf hT ?_)
  rw [if_neg (by rw [h1]; decide)]
  refine wpAny_bind (wpAny_pyIter_revIter hit ?_)
  refine wpAny_bind (wpAny_holding ?_)
  unfold Builtin.List.listLengthHint
  refine wpAny_bind (wpAny_specialOf hT RT.nolen_lri ?_)
  show wpAny _ A.in1 (specialOf (Value.ref it) (Str.ofString "__length_hint__") >>= _) _ _ _
  refine wpAny_bind (wpAny_specialOf hT RT.hint_lri ?_)
  generalize hid : ("list_reverseiterator.__length_hint__" : String) = id0
  wp_delta
  rw [show splitId id0 = some ("list_reverseiterator", "__length_hint__") from by subst hid; decide +kernel]
  subst hid
  refine wpAny_bind (wpAny_isInstance (b := true) hT (by rw [isSubtype_type]; kernel_rfl) ?_)
  refine wpAny_pure ?_
  rw [if_neg (by decide)]
  have e0 : ((items.size : Nat) : Int) - 1 - ((0 : Nat) : Int) = (items.size : Int) - 1 := by omega
  refine wpAny_pure ⟨plainId_quiet F.plain_extend_loop _, codeAny_extend_loopS W hn _ hSf _ items.size 0 _ _ _ rfl (Nat.zero_le _) ⟨Nat.zero_le _, by rw [e0]; exact hit, hl⟩ hS (ItemsOf.nil _) fun s' acc' c' hm hS' hacc => ?_⟩
  rw [Moved.eq_with hm]
  refine hR s'.heap s'.toks acc' c' (fun b o hb hb2 e => hm.heap b o (fun hmem => ?_) e) hS' hacc
  rcases List.mem_cons.mp hmem with e' | hmem
  · exact hb e'
  · exact hb2 (List.mem_singleton.mp hmem)
theorem rev_call {Q : Value → Shared → Prop} (hh : A.handled = none) (hit : s.heap.IsRevIter it l ((items.size : Int) - 1)) (hl : s.heap.IsList l items) (hne : l ≠ it) (hn : items.size ≤ sizeLine)
    (hQ : ∀ h' tk acc' c', (∀ b o, b ≠ it → s.heap.get? b = some o → h'.get? b = some o) → h'.get? s.heap.objs.size = some { cls := .type "list", dict := none, data := .seq acc' c', slots := #[] } → ItemsOf (fun i v => items[items.size - 1 - i]? = some v) acc' items.size → Q (.ref s.heap.objs.size) { s with heap := h', toks := tk }) :
    wpAny (model prog w) A (call (.type "list") [.ref it]) Q E s := by
  obtain ⟨oi, hoi, _⟩ := id hit
  obtain ⟨ol, hol, _⟩ := id hl
  have hSi : s.heap.objs.size ≠ it := Nat.ne_of_gt (Heap.lt_size hoi)
  have hSl : s.heap.objs.size ≠ l := Nat.ne_of_gt (Heap.lt_size hol)
  refine callType_codes (Q₁ := fun obj s₁ => obj = .ref s.heap.objs.size ∧ s₁ = { s with heap := s.heap.push { cls := .type "list", data := .seq #[] } }) PySem.F.called_list (PySem.F.typeCall_list_1 _) PySem.F.entry_list_init
    (code_list_new _ ⟨rfl, rfl⟩) fun obj s₁ h₁ => ?_
  obtain ⟨rfl, rfl⟩ := h₁
  have hS : (s.heap.push { cls := .type "list", data := .seq #[] }).get? s.heap.objs.size = some { cls := .type "list", data := .seq #[] } := Heap.get?_push_size _ rfl
  refine ⟨⟨_, hS, rfl⟩, PySem.F.args_list_init_2 _ _, ?_⟩
  show wpAny _ _ (do let old ← Builtin.List.listItems (.ref s.heap.objs.size); Builtin.List.listUpdate (.ref s.heap.objs.size) (fun _ => #[]); letGo old.toList.reverse; Builtin.List.listExtendWith (.ref s.heap.objs.size) (.ref it) .none) _ _ _
  refine wpAny_bind ?_
  unfold Builtin.List.listItems
  refine wpAny_bind (wpAny_seqItems hS rfl (wpAny_pure ?_))
  show wpAny _ _ (updateSeq s.heap.objs.size (fun _ => #[]) >>= fun _ => letGo (#[] : Array Value).toList.reverse >>= fun _ => Builtin.List.listExtendWith (.ref s.heap.objs.size) (.ref it) .none) _ _ _
  refine wpAny_bind (wpAny_updateSeq hS rfl ?_)
  have hS₂ := Heap.get?_update_self (Obj.mapSeq (fun _ => (#[] : Array Value))) hS rfl
  have oth : ∀ b o, s.heap.get? b = some o → ((s.heap.push { cls := .type "list", data := .seq #[] }).update s.heap.objs.size (Obj.mapSeq (fun _ => (#[] : Array Value)))).get? b = some o :=
    fun b o e => (Heap.get?_update_other _ _ (Nat.ne_of_gt (Heap.lt_size e))).trans (Heap.get?_push_of_some _ e)
  refine wpAny_bind (wpAny_letGo ?_)
  refine rev_extend (A := A.in1) hh (hit.at fun o e => oth _ _ e) (hl.at fun o e => oth _ _ e) hne hn hSi hSl hS₂ fun h' tk acc' c' hk hS' hacc => ⟨rfl, hQ h' tk acc' c' (fun b o hb e => hk b o (Nat.ne_of_lt (Heap.lt_size e)) hb (oth b o e)) hS' hacc⟩
end
section
variable {Θ : Pm} {P : List Nat} {W : WX} {X : Cx}
def tLstRev (K : PySem.W.Frag) (te : TE) : TE := fun σ H Q => te σ H fun v H1 => ∃ (a : Addr) (xs : List V), v = .ref a ∧ SqL K H1 a xs ∧ ∀ q, H1 q = none → Q (.ref q) (upd H1 q (.lst xs.reverse))
theorem pe_lstRev {e : Expr} {te : TE} {p p2 pos pos2 : Pos} (hc : X.calm = true) (hg : Gl X "list") (hm : X.mg "list" = none) (hg2 : Gl X "reversed") (hm2 : X.mg "reversed" = none) (he : PE X e te)
    (hs : starEach [e] X.env = (false, eval e X.env) :: starEach [] X.env)
    (hs2 : starEach [.Call (.Name "reversed" p2) [e] [] pos2] X.env = (false, eval (.Call (.Name "reversed" p2) [e] [] pos2) X.env) :: starEach [] X.env) :
    PE X (.Call (.Name "list" p) [.Call (.Name "reversed" p2) [e] [] pos2] [] pos) (tLstRev X.K te) := by
  refine ⟨fun pins s σ H Q I h => ?_⟩
  refine Call_ (ld_blt I hg hm PyProof.Rows.boot_list (PyProof.Rows.callWith_type1 (args_cons (Call_ (ld_blt I hg2 hm2 PyProof.Rows.boot_reversed (PyProof.Rows.callWith_type1 (args_cons (thn (he.run pins s σ H _ I h) fun u s1 ⟨v, H1, I1, r1, q1⟩ => args_nil ?_) hs) hs rfl))) hs2) hs2 rfl))
  obtain ⟨a, xs, ev, hq, q⟩ := q1
  subst ev
  obtain rfl : u = Value.ref a := r1
  obtain ⟨its, rv, p', hz⟩ := I1.list hq
  refine call_reversed_list p'.isList (args_nil ?_)
  have k0 : ∀ b o, s1.heap.get? b = some o → (s1.heap.push (revObj a ((its.toArray.size : Int) - 1))).get? b = some o := fun b o e => Heap.get?_push_of_some _ e
  have I2 : Inv X pins σ H1 { s1 with heap := s1.heap.push (revObj a ((its.toArray.size : Int) - 1)) } := I1.kept (t' := s1.toks) k0
  obtain ⟨f0, f1, f2, f3, f4, f5⟩ := I1.fpOk (H' := H1) (b := s1.heap.objs.size) (Nat.le_refl _) (I1.hok.fresh (Nat.le_refl _))
  have hl := p'.isList
  obtain ⟨ol, hol, _⟩ := id hl
  have hne : a ≠ s1.heap.objs.size := Nat.ne_of_lt (Heap.lt_size hol)
  have hn : its.toArray.size ≤ sizeLine := by rw [List.size_toArray, ← rv.length]; exact hz
  have szp : (s1.heap.push (revObj a ((its.toArray.size : Int) - 1))).objs.size = s1.heap.objs.size + 1 := PyProof.Rows.size_push' _ _
  refine rev_call (s := { s1 with heap := s1.heap.push (revObj a ((its.toArray.size : Int) - 1)) }) (I1.ok.hd hc) ⟨_, Heap.get?_push_size _ rfl, rfl, rfl⟩ (hl.push _) hne hn fun h' tk acc c' hk he' hi => ?_
  have e : ∀ b o, s1.heap.get? b = some o → h'.get? b = some o := fun b o q => hk b o (Nat.ne_of_lt (Heap.lt_size q)) (k0 b o q)
  have le : s1.heap.objs.size ≤ (s1.heap.push (revObj a ((its.toArray.size : Int) - 1))).objs.size := by rw [szp]; exact Nat.le_succ _
  refine ⟨.ref _, upd H1 _ (.lst xs.reverse), I1.laid (t' := tk) e le (show ObjOk X.prog X.w _ _ _ (.lst xs.reverse) from ⟨by rw [List.length_reverse]; exact hz, acc.toList, c', RT.vals_rev rv hi, ?_⟩), rfl, q _ (I1.hok.fresh le)⟩
  rw [Array.toArray_toList]; exact he'
theorem listrev_ok (hK : X.K = Θ.K) {r : Rho → Rr Opd} {e : Expr} {p p2 pos pos2 : Pos} (hc : X.calm = true) (hg : Gl X "list") (hm : X.mg "list" = none) (hg2 : Gl X "reversed") (hm2 : X.mg "reversed" = none) (he : PE X e (tO Θ r P W))
    (hs : starEach [e] X.env = (false, eval e X.env) :: starEach [] X.env)
    (hs2 : starEach [.Call (.Name "reversed" p2) [e] [] pos2] X.env = (false, eval (.Call (.Name "reversed" p2) [e] [] pos2) X.env) :: starEach [] X.env) :
    PE X (.Call (.Name "list" p) [.Call (.Name "reversed" p2) [e] [] pos2] [] pos) (tG Θ (vR (rNV (bltPV .listrev) fun ρ => (r ρ).bnd fun o ρ => (Rr.ok [] ρ).bnd fun os ρ => .ok (o :: os) ρ)) P W) := by
  refine PE.weak (pe_lstRev hc hg hm hg2 hm2 he hs hs2) fun σ H Q q => ?_
  obtain ⟨B, F, A, ρ, S, q⟩ := q
  have q := Go.bnd (Go.bnd (Go.bnd q))
  refine ⟨B, F, A, ρ, S, q.mono (fun o ρ' k y F' H' A' S' f r => ?_) fun _ _ k => k⟩
  have k : Go (match getAll ρ' [o] with
    | some vs => Rr.of (bltPV .listrev vs) ρ'
    | none => .bad) (fun v ρ => okE Θ P B F H A σ Q (.imm v) ρ) (exE Θ P B F H A σ W) := k
  cases hga : getAll ρ' [o] with
  | none => rw [hga] at k; exact k.elim
  | some ps =>
    rw [hga] at k
    obtain ⟨s, hs, k⟩ := Go.of (show Go (Rr.of (bltPV .listrev ps) ρ') _ _ from k)
    have tt := ResOs.tps S' (show ResOs Θ F' σ [o] [y] from ⟨y, [], rfl, r, rfl⟩) hga
    match ps, hs, tt with
    | [.lst zs], hs, tt =>
      cases hs
      obtain ⟨z, e1, t⟩ := tps1 tt
      obtain ⟨rfl, _⟩ := List.cons.inj e1
      obtain ⟨a, vs, rfl, q1, q2⟩ := t
      exact ⟨a, vs, rfl, SqL.of q1, fun q hq => (Mk.of S' f k).2 q _ hq q2.rev⟩
end
end KL
end
section
set_option Elab.async false
set_option linter.all false
set_option maxRecDepth 100000
/-! KEn: enumerate(tuple). -/
namespace KL
open PySem PySem.Spec PyProof.Rows L2
set_option maxHeartbeats 1000000 in
theorem meets_enum1 {v : Value} {o : Obj} {H : Heap → Prop} (B : Begins v o H) :
    Meets (Builtin.«enumerate.__new__» ⟨[.type "enumerate", v], []⟩) (fun _ R s => H s.heap ∧
      R (.ok (.ret (.ref (s.heap.push o).objs.size))) { s with heap := (s.heap.push o).push { cls := .type "enumerate", data := .fields #[.none, .bool false, .ref s.heap.objs.size, rawInt 0, .none, .none] } }) :=
  .of_wp fun prog w A R s h => by
    obtain ⟨hp, g, d, tk, os⟩ := s; obtain ⟨h1, h⟩ := h
    have hsub := sub_enumerate
    have q1 : ∀ {A' : Around} {E : Value → Shared → Prop} {Q : Value → Shared → Prop}, Q (.ref hp.objs.size) ⟨hp.push o, g, d, tk, os⟩ → wpAny (model prog w) A' (pyIter v) Q E ⟨hp, g, d, tk, os⟩ :=
      fun q => B.iter prog w _ _ ⟨hp, g, d, tk, os⟩ _ h1 q
    wp_walk using q1
    refine wpAny_stack_any fun st => wpAny_pure ?_
    split
    · rename_i c _ _ _ _ _
      cases (c == Value.type "enumerate")
      · wp_walk using q1
        exact ⟨_, rfl, h⟩
      · wp_walk using q1
        exact ⟨_, rfl, h⟩
    · wp_walk using q1
      exact ⟨_, rfl, h⟩
section
variable {prog : Program} {w : World} {A : Around} {E : Value → Shared → Prop} {s : Shared}
theorem call_enum1 {v : Value} {o : Obj} {H : Heap → Prop} {Q : Value → Shared → Prop} (B : Begins v o H) (h1 : H s.heap)
    (h : ∀ h', IsEnum h' (s.heap.objs.size + 1) s.heap.objs.size 0 .none → h'.get? s.heap.objs.size = some o → h'.objs.size = s.heap.objs.size + 2 →
      (∀ b o, s.heap.get? b = some o → h'.get? b = some o) → Q (.ref (s.heap.objs.size + 1)) { s with heap := h' }) :
    wpAny (model prog w) A (call (.type "enumerate") [v]) Q E s := by
  refine callType_new F.called_enumerate (by decide) (F.typeCall_enumerate_1 _) (F.newCall_enumerate_1 _) (fun obj => F.args_object_init_2 obj _) F.entry_enumerate_new
    (meets_enum1 B) ⟨h1, ?_⟩
  have hz : (s.heap.push o).objs.size = s.heap.objs.size + 1 := Heap.size_push ..
  show _ ∧ _
  rw [hz]
  have he : IsEnum ((s.heap.push o).push { cls := .type "enumerate", data := .fields #[.none, .bool false, .ref s.heap.objs.size, rawInt 0, .none, .none] }) (s.heap.objs.size + 1) s.heap.objs.size 0 .none := by
    have := Heap.get?_push_size (s.heap.push o) (o := { cls := .type "enumerate", data := .fields #[.none, .bool false, .ref s.heap.objs.size, rawInt 0, .none, .none] }) rfl
    rw [hz] at this; exact this
  refine ⟨⟨_, he, rfl⟩, h _ he (Heap.get?_push_of_some _ (Heap.get?_push_size _ B.free)) (by rw [Heap.size_push, hz]) fun b o x => Heap.get?_push_of_some _ (Heap.get?_push_of_some _ x)⟩
end
/-- the tuple at a, each item in a new pair -/
def IteT (K : PySem.W.Frag) (a : Addr) : It :=
  ⟨fun i H => ∃ (xs : List V) (x : V), SqT K H a xs ∧ xs[i]? = some x, fun i H v H' => ∃ T x, v = .ref T ∧ H T = none ∧ H' = upd H T (.tup [.int (i : Nat), x]) ∧ ∀ xs, SqT K H a xs → xs[i]? = some x, fun i H => ∃ xs : List V, SqT K H a xs ∧ xs.length = i⟩
theorem turn_enumT {P : Program} {w : World} {K : PySem.W.Frag} {elts : List Expr} {kk : Nat} {tpos : Pos} (a e it : Addr) :
    Turn P w K (.Tuple elts kk tpos) (IteT K a) [e, it] e (fun i h => (∃ old, IsEnum h e it ((i : Nat) : Int) old) ∧ h.IsTupleIter it a i ∧ e ≠ it) where
  mem := by simp
  obj := fun i h st b hb => by
    obtain ⟨⟨old, he⟩, ⟨o, ho, hc, hd⟩, _⟩ := st
    have e' : b = e ∨ b = it := by simpa using hb
    rcases e' with z | z
    · rw [z]; exact ⟨_, he, fun v q => nomatch q⟩
    · rw [z]; exact ⟨o, ho, fun v q => by rw [hd] at q; cases q⟩
  keep := fun i h h' st k => let ⟨⟨old, he⟩, hi, hne⟩ := st; ⟨⟨old, k e (by simp) _ he⟩, hi.at fun o q => k it (by simp) o q, hne⟩
  item := by
    intro X hP hw hK hc i pins s σ H E I hf st hg
    subst hP hw hK
    obtain ⟨⟨old, he⟩, hit, hne⟩ := st
    obtain ⟨xs, x, hq, hx⟩ := hg
    obtain ⟨its, rv, p, hz⟩ := I.tuple hq
    obtain ⟨u, hu, ru⟩ := rv.get hx
    have hel : e < s.heap.objs.size := Heap.lt_size he
    have hil : it < s.heap.objs.size := by obtain ⟨_, q, _⟩ := hit; exact Heap.lt_size q
    have hai : a ≠ it := by
      rintro rfl
      obtain ⟨o1, q1, c1, _⟩ := hit
      obtain ⟨o2, q2, c2, _⟩ := p
      rw [q1] at q2; cases q2
      rw [c1] at c2; exact absurd (Value.type.inj c2) (by decide)
    have hae : e ≠ a := by
      rintro rfl
      obtain ⟨o2, q2, c2, _⟩ := p
      have he' : s.heap.get? e = some _ := he
      rw [he'] at q2; cases q2
      exact absurd (Value.type.inj c2) (by decide)
    have D := Draws.tuple (prog := X.prog) (w := X.w) (A := X.A.in1) (I.ok.hd hc) it a hai its.toArray
    refine wpAny_pyNext_enum_itemD D he ⟨hit, p⟩ (by rw [List.size_toArray]; exact (List.getElem?_eq_some_iff.mp hu).1) hne (by simp [hne, hae]) fun y h' tk hP ho st' hT hsz hk => ?_
    have hy : u = y := by
      have e1 : its[i]? = some y := by simpa using hP
      rw [hu] at e1; exact Option.some.inj e1
    subst hy
    obtain ⟨hit', _⟩ := st'
    refine ⟨_, rfl, wpAny_letOwnedTupleGo_enum (s := { s with heap := h', toks := tk + 1 }) ho fun h'' he' sb => ?_⟩
    have hT2 : h''.get? s.heap.objs.size = some { cls := .type "tuple", data := .seq #[.int i tk, u] } := (sb.2 _ (Nat.ne_of_gt hel)).trans hT
    have new : ObjOk X.prog X.w (upd H s.heap.objs.size (.tup [.int (i : Nat), x])) h'' s.heap.objs.size (.tup [.int (i : Nat), x]) :=
      ⟨by show 2 ≤ sizeLine; decide, [.int i tk, u], .cons ⟨_, rfl⟩ (.cons ru .nil), ⟨_, hT2, rfl, _, rfl⟩⟩
    have I1 : Inv X pins σ (upd H s.heap.objs.size (.tup [.int (i : Nat), x])) { s with heap := h'', toks := tk + 1 } :=
      I.turnedNew (ch := [e, it]) (fun b ob hb q => (sb.2 b (fun z => hb (by simp [z]))).trans (hk b ob (fun z => hb (by simp [z])) (fun z => hb (by simp [z])) q)) hf (Nat.le_refl _) new
    refine ⟨.ref s.heap.objs.size, _, I1, rfl, ⟨_, x, rfl, I.hok.fresh (Nat.le_refl _), rfl, fun ys hy => by rw [I.tuple_inj hy hq]; exact hx⟩, ⟨⟨u, ?_⟩, hit'.at fun o q => (sb.2 it (Ne.symm hne)).trans q, hne⟩, fun b hb => ?_⟩
    · have e1 : ((i + 1 : Nat) : Int) = (i : Int) + 1 := by omega
      rw [e1]; exact he'
    · have hb' : b < s.heap.objs.size := by
        have e' : b = e ∨ b = it := by simpa using hb
        rcases e' with z | z
        · rw [z]; exact hel
        · rw [z]; exact hil
      rw [upd_ne (Nat.ne_of_lt hb')]
      exact (hf b hb).1
  done := by
    intro X hP hw hK hc i pins s σ H E I hf st hg
    subst hP hw hK
    obtain ⟨⟨old, he⟩, hit, hne⟩ := st
    obtain ⟨xs, hq, hx⟩ := hg
    obtain ⟨its, rv, p, hz⟩ := I.tuple hq
    obtain ⟨f0, f1, f2, f3, f4, f5⟩ := hf it (by simp)
    have hl := rv.length
    have hai : a ≠ it := by
      rintro rfl
      obtain ⟨o1, q1, c1, _⟩ := hit
      obtain ⟨o2, q2, c2, _⟩ := p
      rw [q1] at q2; cases q2
      rw [c1] at c2; exact absurd (Value.type.inj c2) (by decide)
    have D := Draws.tuple (prog := X.prog) (w := X.w) (A := X.A.in1) (I.ok.hd hc) it a hai its.toArray
    have en : its.toArray.size = i := by rw [List.size_toArray, ← hl]; exact hx
    exact wpAny_pyNext_enum_endD D he ⟨by rw [en]; exact hit, p⟩ fun h' eb => ⟨rfl, I.turned (t' := s.toks) (fun b o hb q => eb b o hb q) f0 f1 f3 f4 f5⟩
  self := fun A i s Q E st h => let ⟨⟨_, he⟩, _⟩ := st; wpAny_pyIter_enum he h
section
variable {X : Cx} {e : Expr} {te : TE} {p pos tpos : Pos} {elts : List Expr} {kk : Nat}
def iEnmA (K : PySem.W.Frag) (te : TE) : TI := fun σ H R => te σ H fun x H1 => ∃ a xs, x = .ref a ∧ ((SqL K H1 a xs ∧ R (Ite K a) H1) ∨ (SqT K H1 a xs ∧ R (IteT K a) H1))
theorem pi_enmA (hg : Gl X "enumerate") (hm : X.mg "enumerate" = none) (he : PE X e te) (hs : starEach [e] X.env = (false, eval e X.env) :: starEach [] X.env) :
    PI X (.Tuple elts kk tpos) (.Call (.Name "enumerate" p) [e] [] pos) (iEnmA X.K te) := by
  refine ⟨fun pins s σ H R I h => ?_⟩
  refine Call_ (ld_blt I hg hm boot_enumerate (PyProof.Rows.callWith_type1 (one_arg he I h (fun v s1 x H1 I1 r q => ?_) hs) hs))
  obtain ⟨a, xs, rfl, q⟩ := q
  cases r
  rcases q with ⟨hq, q⟩ | ⟨hq, q⟩
  · obtain ⟨its, rv, p', hz⟩ := I1.list hq
    refine call_enumerate_list p'.isList fun h' he hit hsz hk => wpAny_pyIter_enum he ?_
    have I2 : Inv X pins σ H1 { s1 with heap := h' } := I1.kept (t' := s1.toks) hk
    refine ⟨s1.heap.objs.size + 1, [s1.heap.objs.size + 1, s1.heap.objs.size], _, _, H1, rfl, I2, turn_enum a (s1.heap.objs.size + 1) s1.heap.objs.size, ⟨⟨.none, he⟩, hit, Nat.succ_ne_self _⟩, fun b hb => ?_, q⟩
    have e' : b = s1.heap.objs.size + 1 ∨ b = s1.heap.objs.size := by simpa using hb
    have hle : s1.heap.objs.size ≤ b := by
      rcases e' with z | z
      · rw [z]; exact Nat.le_add_right _ _
      · rw [z]; exact Nat.le_refl _
    exact I1.fpOk hle (I1.hok.fresh hle)
  · obtain ⟨its, rv, p', hz⟩ := I1.tuple hq
    refine call_enum1 (begins_tuple a its.toArray) p' fun h' he hit hsz hk => wpAny_pyIter_enum he ?_
    have I2 : Inv X pins σ H1 { s1 with heap := h' } := I1.kept (t' := s1.toks) hk
    refine ⟨s1.heap.objs.size + 1, [s1.heap.objs.size + 1, s1.heap.objs.size], _, _, H1, rfl, I2, turn_enumT a (s1.heap.objs.size + 1) s1.heap.objs.size, ⟨⟨.none, he⟩, ⟨_, hit, rfl, rfl⟩, Nat.succ_ne_self _⟩, fun b hb => ?_, q⟩
    have e' : b = s1.heap.objs.size + 1 ∨ b = s1.heap.objs.size := by simpa using hb
    have hle : s1.heap.objs.size ≤ b := by
      rcases e' with z | z
      · rw [z]; exact Nat.le_add_right _ _
      · rw [z]; exact Nat.le_refl _
    exact I1.fpOk hle (I1.hok.fresh hle)
def iSeqA (K : PySem.W.Frag) (te : TE) : TI := fun σ H R => te σ H fun x H1 => ∃ a xs, x = .ref a ∧ ((SqL K H1 a xs ∧ R (Itl K a) H1) ∨ (SqT K H1 a xs ∧ R (Itt K a) H1))
theorem pi_seqA {tg : Expr} (hl : PE X e te) : PI X tg e (iSeqA X.K te) := by
  refine ⟨fun pins s σ H R I h => ?_⟩
  refine thn (hl.run pins s σ H _ I h) fun v s1 ⟨x, H1, I1, r1, q1⟩ => ?_
  obtain ⟨a, xs, rfl, q⟩ := q1
  cases r1
  rcases q with ⟨hq, q⟩ | ⟨hq, q⟩
  · obtain ⟨its, rv, p, hz⟩ := I1.list hq
    refine wpAny_pyIter_list p.isList ?_
    refine ⟨s1.heap.objs.size, [s1.heap.objs.size], _, _, H1, rfl, I1.kept (t' := s1.toks) fun b o e => Heap.get?_push_of_some _ e, turn_list a _, ⟨_, Heap.get?_push_size _ rfl, rfl, rfl⟩, fun b hb => ?_, q⟩
    have e : b = s1.heap.objs.size := by simpa using hb
    subst e
    exact I1.fpOk (Nat.le_refl _) (I1.hok.fresh (Nat.le_refl _))
  · obtain ⟨its, rv, p, hz⟩ := I1.tuple hq
    refine wpAny_pyIter_tuple (show s1.heap.IsTuple a its.toArray from p) ?_
    refine ⟨s1.heap.objs.size, [s1.heap.objs.size], _, _, H1, rfl, I1.kept (t' := s1.toks) fun b o e => Heap.get?_push_of_some _ e, turn_tuple a _, ⟨_, Heap.get?_push_size _ rfl, rfl, rfl⟩, fun b hb => ?_, q⟩
    have e : b = s1.heap.objs.size := by simpa using hb
    subst e
    exact I1.fpOk (Nat.le_refl _) (I1.hok.fresh (Nat.le_refl _))
def iRg (tr : L2.St → Hp → (Int → Int → Hp → Prop) → Prop) : TI := fun σ H R => tr σ H fun i j H1 => (-(2 ^ 62) ≤ i ∧ i < 2 ^ 62 ∧ -(2 ^ 62) ≤ j ∧ j < 2 ^ 62) ∧ R (Itr i (j - i).toNat) H1
end
end KL
end
section
set_option Elab.async false
set_option linter.all false
set_option maxRecDepth 100000
/-! KA12: slots hidden and put back; what a loop walks. -/
namespace KL
open PySem PySem.Spec PyProof.Rows L2
def wipeA (A : Ad) (vs : List Nat) : Ad := fun j => if j ∈ vs then [] else A j
def backA (A A' : Ad) (vs : List Nat) : Ad := fun j => if j ∈ vs then A j else A' j
theorem wipeR_len : ∀ (vs : List Nat) (ρ : Rho), (wipeR ρ vs).length = ρ.length
  | [], ρ => rfl
  | v :: vs, ρ => by unfold wipeR; rw [List.length_set, wipeR_len vs ρ]
theorem wipeR_get : ∀ (vs : List Nat) (ρ : Rho) (j : Nat), (wipeR ρ vs)[j]? = if j ∈ vs then (ρ[j]?).map fun _ => SV.un else ρ[j]?
  | [], ρ, j => by simp [wipeR]
  | v :: vs, ρ, j => by
    unfold wipeR
    by_cases e : v = j
    · subst e
      rw [List.getElem?_set_self' , wipeR_get vs ρ v]
      by_cases q : v ∈ vs <;> cases ρ[v]? <;> simp [q]
    · rw [List.getElem?_set_ne e, wipeR_get vs ρ j]
      have : j ≠ v := fun z => e z.symm
      simp [this]
theorem backR_len : ∀ (vs : List Nat) (ρ0 ρ : Rho), (backR ρ0 ρ vs).length = ρ.length
  | [], ρ0, ρ => rfl
  | v :: vs, ρ0, ρ => by unfold backR; rw [List.length_set, backR_len vs ρ0 ρ]
theorem backR_get : ∀ (vs : List Nat) (ρ0 ρ : Rho) (j : Nat), ρ0.length = ρ.length → (backR ρ0 ρ vs)[j]? = if j ∈ vs then ρ0[j]? else ρ[j]?
  | [], ρ0, ρ, j, hl => by simp [backR]
  | v :: vs, ρ0, ρ, j, hl => by
    unfold backR
    by_cases e : v = j
    · subst e
      rw [List.getElem?_set_self', backR_get vs ρ0 ρ v hl]
      by_cases h : v < ρ.length
      · have h1 : ρ[v]? = some ρ[v] := by simp [h]
        have h0 : ρ0[v]? = some (ρ0[v]'(by omega)) := by simp [show v < ρ0.length by omega]
        by_cases q : v ∈ vs <;> simp [q, h1, h0]
      · have h1 : ρ[v]? = none := by simp; omega
        have h0 : ρ0[v]? = none := by simp; omega
        by_cases q : v ∈ vs <;> simp [q, h1, h0]
    · rw [List.getElem?_set_ne e, backR_get vs ρ0 ρ j hl]
      have : j ≠ v := fun z => e z.symm
      simp [this]
theorem oa_wipe {A : Ad} {vs : List Nat} {a : Addr} (h : Oa (wipeA A vs) a) : ∃ j, j ∉ vs ∧ a ∈ A j := by
  obtain ⟨j, hj⟩ := h
  unfold wipeA at hj
  split at hj
  · cases hj
  · rename_i q; exact ⟨j, q, hj⟩
section
variable {K : PySem.W.Frag} {P P' : List Nat} {B F F' F1 H H' H1 : Hp} {A A' A1 : Ad} {T : List Addr} {ρ ρ' : Rho} {σ σ' : L2.St} {a : Addr} {i : Nat}
/-- slots forgotten -/
theorem Sta.wipe (S : Sta K P B F H A ρ σ) (vs : List Nat) (hl : σ'.length = σ.length) (hs : ∀ j, j ∉ vs → σ'[j]? = σ[j]?) (hP : ∀ j, j ∈ P → j ∈ P' ∨ j ∈ vs) (hP2 : ∀ j v, ρ[j]? = some (.own2 v) → j ∉ vs → j ∉ P') : Sta K P' B F H (wipeA A vs) (wipeR ρ vs) σ' where
  ext := S.ext
  len := by rw [wipeR_len, S.len, hl]
  ok := fun j s o h1 h2 => by
    rw [wipeR_get] at h1
    unfold wipeA
    by_cases q : j ∈ vs
    · rw [if_pos q] at h1 ⊢
      cases hr : ρ[j]? with
      | none => rw [hr] at h1; cases h1
      | some s0 => rw [hr] at h1; cases h1; rfl
    · rw [if_neg q] at h1 ⊢
      rw [hs j q] at h2
      exact S.ok j s o h1 h2
  out := fun j hj => by
    rw [wipeR_len] at hj
    unfold wipeA; split
    · rfl
    · exact S.out j hj
  nd := fun j => by
    unfold wipeA; split
    · exact List.nodup_nil
    · exact S.nd j
  dj := fun j k b h1 h2 => by
    unfold wipeA at h1 h2
    split at h1
    · cases h1
    · split at h2
      · cases h2
      · exact S.dj j k b h1 h2
  new := fun j hj b hb => by
    unfold wipeA at hb; split at hb
    · cases hb
    · rename_i q
      exact S.new j (fun z => (hP j z).elim hj q) b hb
  mono := S.mono
  np := fun j v h => by
    rw [wipeR_get] at h
    by_cases q : j ∈ vs
    · rw [if_pos q] at h
      cases hr : ρ[j]? with
      | none => rw [hr] at h; cases h
      | some s0 => rw [hr] at h; cases h
    · rw [if_neg q] at h
      exact hP2 j v h q
theorem Frm.wipe (F H : Hp) (A : Ad) (vs : List Nat) : Frm F H A F H (wipeA A vs) [] := ⟨Evl.Ex.refl F, fun a o h1 h2 _ => ⟨h1, h2⟩, fun a h => by
  obtain ⟨j, _, hj⟩ := oa_wipe h
  exact .inl ⟨j, hj⟩, (fun _ z => nomatch z), fun _ h => h⟩
/-- slots put back as they stood -/
theorem Sta.back (S : Sta K P B F H A ρ σ) {vs : List Nat} (S' : Sta K P' B F' H' A' ρ' σ') (f : Frm F H (wipeA A vs) F' H' A' T) {τ : L2.St} (hl : ρ'.length = ρ.length) (h1 : ∀ j, j ∈ vs → τ[j]? = σ[j]?) (h2 : ∀ j, j ∉ vs → τ[j]? = σ'[j]?) (hτ : τ.length = σ.length)
    (hP : ∀ j, j ∉ vs → j ∈ P' → j ∈ P) (hP2 : ∀ j, j ∉ vs → j ∈ P → j ∈ P') : Sta K P B F' H' (backA A A' vs) (backR ρ ρ' vs) τ := by
  have keep : ∀ j b, j ∈ vs → b ∈ A j → F' b = none ∧ ∀ u, H b = some u → H' b = some u := fun j b hj hb => by
    obtain ⟨n1, u, hu⟩ := S.no hb
    have q := f.keep b u n1 hu fun z => by
      obtain ⟨k, hk, hb'⟩ := oa_wipe z
      exact hk (S.dj j k b hb hb' ▸ hj)
    exact ⟨q.1, fun w hw => by rw [hu] at hw; cases hw; exact q.2⟩
  have ap : ∀ j b k, j ∈ vs → b ∈ A j → b ∈ A' k → False := fun j b k hj hb hk => by
    rcases f.own b ⟨k, hk⟩ with z | z
    · obtain ⟨l, hl, hb'⟩ := oa_wipe z
      exact hl (S.dj j l b hb hb' ▸ hj)
    · obtain ⟨_, u, hu⟩ := S.no hb
      rw [z] at hu; cases hu
  refine ⟨S'.ext, by rw [backR_len, hl, S.len, hτ], fun j s o q1 q2 => ?_, fun j hj => ?_, fun j => ?_, fun j k b q1 q2 => ?_, fun j hj b hb => ?_, S'.mono, fun j v hj => ?_⟩
  · rw [backR_get _ _ _ _ hl.symm] at q1
    unfold backA
    by_cases q : j ∈ vs
    · rw [if_pos q] at q1 ⊢
      rw [h1 j q] at q2
      exact (S.ok j s o q1 q2).on f.ext (fun b hb _ => (keep j b q hb).1) fun b hb u hu => (keep j b q hb).2 u hu
    · rw [if_neg q] at q1 ⊢
      rw [h2 j q] at q2
      exact S'.ok j s o q1 q2
  · rw [backR_len] at hj
    unfold backA; split
    · exact S.out j (by omega)
    · exact S'.out j hj
  · unfold backA; split
    · exact S.nd j
    · exact S'.nd j
  · unfold backA at q1 q2
    split at q1 <;> split at q2
    · exact S.dj j k b q1 q2
    · rename_i e1 e2; exact (ap j b k e1 q1 q2).elim
    · rename_i e1 e2; exact (ap k b j e2 q2 q1).elim
    · exact S'.dj j k b q1 q2
  · unfold backA at hb; split at hb
    · exact S.new j hj b hb
    · rename_i q; exact S'.new j (fun z => hj (hP j q z)) b hb
  · rw [backR_get _ _ _ _ hl.symm] at hj
    by_cases q : j ∈ vs
    · rw [if_pos q] at hj; exact S.np j v hj
    · rw [if_neg q] at hj; exact fun z => S'.np j v hj (hP2 j q z)
theorem Frm.back {vs : List Nat} (f : Frm F H (wipeA A vs) F' H' A' T) : Frm F H A F' H' (backA A A' vs) T := ⟨f.ext, fun a o h1 h2 h3 => f.keep a o h1 h2 fun z => by
    obtain ⟨j, _, hj⟩ := oa_wipe z
    exact h3 ⟨j, hj⟩, fun a ⟨j, hj⟩ => by
    unfold backA at hj
    split at hj
    · exact .inl ⟨j, hj⟩
    · rcases f.own a ⟨j, hj⟩ with z | z
      · obtain ⟨k, _, hk⟩ := oa_wipe z
        exact .inl ⟨k, hk⟩
      · exact .inr z, f.tn, f.fre⟩
theorem TOk.back {vs : List Nat} (S : Sta K P B F H A ρ σ) (f : Frm F H (wipeA A vs) F' H' A' T) (t : TOk A' F' H' T) : TOk (backA A A' vs) F' H' T := ⟨t.nd, fun a h ⟨j, hj⟩ => by
    unfold backA at hj
    split at hj
    · obtain ⟨_, u, hu⟩ := S.no hj
      rw [f.tn a h] at hu; cases hu
    · exact t.ap a h ⟨j, hj⟩, t.no, t.th⟩
end

/-! ### what a loop walks -/
section
variable (Θ : Pm)
/-- at turn i the iterator yields what stands for the i-th value, whatever the slots at hand have done -/
def Wlk (F H : Hp) (A : Ad) (hd : List Nat) (J : It) (xs : List PV) : Prop := ∀ P B F' H' A' ρ' σ', Sta Θ.K P B F' H' A' ρ' σ' → Evl.Ex F F' → (hd ≠ [] → Frm F H (wipeA A hd) F' H' A' []) → ∀ i,
  (∀ p, xs[i]? = some p → J.go i H' ∧ ∀ x H'', J.yld i H' x H'' → ∃ F'', Sta Θ.K P B F'' H'' A' ρ' σ' ∧ Frm F' H' A' F'' H'' A' [] ∧ Rep Θ.K F'' p x) ∧ (i = xs.length → J.stop i H')
def okI (P : List Nat) (B F H : Hp) (A : Ad) (σ : L2.St) (R : It → Hp → Prop) (p : List PV × List Nat) (ρ' : Rho) : Prop := ∀ J F' H' A', Sta Θ.K P B F' H' A' ρ' σ → Frm F H A F' H' A' [] → Wlk Θ F' H' A' p.2 J p.1 → R J H'
def tI (r : Rho → Rr (List PV × List Nat)) (P : List Nat) (W : WX) : TI := fun σ H R => ∃ B F A ρ, Sta Θ.K P B F H A ρ σ ∧ Go (r ρ) (okI Θ P B F H A σ R) (exE Θ P B F H A σ W)
end
section
variable {Θ : Pm} {g : Gm} {P : List Nat} {W : WX} {X : Cx} {x : Expr} {B F F' F1 H H' H1 : Hp} {A A' A1 : Ad} {T : List Addr} {ρ ρ' : Rho} {σ : L2.St} {a : Addr} {i : Nat} {o : Opd} {v : V} {pos : Pos}
theorem PI.weak {tg it : Expr} {t t' : TI} (h : PI X tg it t) (w : ∀ σ H R, t' σ H R → t σ H R) : PI X tg it t' := ⟨fun pins s σ H R I q => h.run pins s σ H R I (w _ _ _ q)⟩
/-- a list that is walked stays -/
theorem walk_lst {xs : List PV} (S : Sta Θ.K P B F' H' A' ρ' σ) (r : ResO Θ F' σ o v) (hg : o.get ρ' = some (.lst xs)) :
    ∃ a vs, v = .ref a ∧ Reps Θ.K F' xs vs ∧ H' a = some (.lst vs) ∧ ∀ F2 H2 A2, Evl.Ex F2 H2 → Evl.Ex F' F2 → (hidO ρ' o ≠ [] → Frm F' H' (wipeA A' (hidO ρ' o)) F2 H2 A2 []) → H2 a = some (.lst vs) := by
  have still : Rep Θ.K F' (.lst xs) v → ∃ a vs, v = .ref a ∧ Reps Θ.K F' xs vs ∧ H' a = some (.lst vs) ∧ ∀ F2 H2 A2, Evl.Ex F2 H2 → Evl.Ex F' F2 → (hidO ρ' o ≠ [] → Frm F' H' (wipeA A' (hidO ρ' o)) F2 H2 A2 []) → H2 a = some (.lst vs) := fun h => by
    simp only [Rep] at h
    obtain ⟨a, vs, rfl, h1, h2⟩ := h
    exact ⟨a, vs, rfl, h2, S.ext _ _ h1, fun F2 H2 A2 e x f => e _ _ (x _ _ h1)⟩
  cases o with
  | imm s => exact still (by have r : Rep Θ.K F' s.val v := r; rwa [show s.val = .lst xs from Option.some.inj hg] at r)
  | ref j =>
    have r' : σ[j]? = some (some v) := r
    have hg : (match ρ'[j]? with
      | some (.shr v) => some v
      | some (.own v) => some v
      | some (.frz2 v) => some v
      | _ => none) = some (.lst xs) := hg
    cases hs : ρ'[j]? with
    | none => rw [hs] at hg; cases hg
    | some s =>
      rw [hs] at hg
      obtain ⟨u, hu, ok⟩ := S.at hs
      rw [r'] at hu; cases hu
      cases s with
      | un => cases hg
      | shr q => cases hg; obtain ⟨_, y, hy, hr⟩ := ok; cases hy; exact still hr
      | own2 q => cases hg
      | frz2 q => cases hg; obtain ⟨_, b, hy, hr, _⟩ := ok; cases hy; exact still hr
      | own q =>
        cases hg
        obtain ⟨b, hb, hy, hF, vs, q1, q2⟩ := ok
        cases hy
        have hh : hidO ρ' (.ref j) = [j] := by unfold hidO; simp only [hs]
        refine ⟨b, vs, rfl, q2, q1, fun F2 H2 A2 e x f => ((f (by rw [hh]; exact fun z => nomatch z)).keep b _ hF q1 fun z => ?_).2⟩
        obtain ⟨k, hk, hb'⟩ := oa_wipe z
        have e1 : j = k := S.dj j k b (by rw [hb]; simp) hb'
        subst e1
        exact hk (by rw [hh]; exact List.mem_singleton.mpr rfl)
def seqW (r : Rho → Rr Opd) (ρ : Rho) : Rr (List PV × List Nat) := (r ρ).bnd fun v ρ => match v.get ρ with
    | some (.lst xs) => .ok (xs, hidO ρ v) ρ
    | some (.tup xs) => .ok (xs, []) ρ
    | _ => .bad
def enmW (r : Rho → Rr Opd) (ρ : Rho) : Rr (List PV × List Nat) := (r ρ).bnd fun v ρ => match v.get ρ with
    | some (.lst xs) => .ok (enumPV 0 xs, hidO ρ v) ρ
    | some (.tup xs) => .ok (enumPV 0 xs, []) ρ
    | _ => .bad
theorem lt_of {α : Type} {xs : List α} {i : Nat} {x : α} (h : xs[i]? = some x) : i < xs.length := (List.getElem?_eq_some_iff.mp h).1
/-- a list walked -/
theorem wlk_lst {xs : List PV} {vs : List V} (hK : X.K = Θ.K) (rp : Reps Θ.K F xs vs) {hd : List Nat} (st : ∀ F2 H2 A2, Evl.Ex F2 H2 → Evl.Ex F F2 → (hd ≠ [] → Frm F H (wipeA A hd) F2 H2 A2 []) → H2 a = some (.lst vs)) : Wlk Θ F H A hd (Itl X.K a) xs := by
  intro P B F' H' A' ρ' σ' S x f i
  have h := st F' H' A' S.ext x f
  refine ⟨fun p hp => ?_, fun e => ⟨vs, SqL.of h, by rw [← rp.len]; omega⟩⟩
  obtain ⟨w, hw, hr⟩ := rp.get hp
  refine ⟨⟨vs, w, SqL.of h, hw⟩, fun y' H'' ⟨e, hy⟩ => ?_⟩
  subst e
  have q := hy vs (SqL.of h)
  rw [hw] at q; cases q
  exact ⟨F', S, Frm.refl _ _ _, hr.mono x⟩
theorem wlk_tup {xs : List PV} {vs : List V} (hK : X.K = Θ.K) (rp : Reps Θ.K F xs vs) (st : SqT Θ.K F a vs) : Wlk Θ F H A [] (Itt X.K a) xs := by
  intro P B F' H' A' ρ' σ' S x f i
  have h : SqT X.K H' a vs := by rw [hK]; exact Evl.ex_t (x.trans S.ext) st
  refine ⟨fun p hp => ?_, fun e => ⟨vs, h, by rw [← rp.len]; omega⟩⟩
  obtain ⟨w, hw, hr⟩ := rp.get hp
  refine ⟨⟨vs, w, h, hw⟩, fun y' H'' ⟨e, hy⟩ => ?_⟩
  subst e
  have q := hy vs h
  rw [hw] at q; cases q
  exact ⟨F', S, Frm.refl _ _ _, hr.mono x⟩
theorem enumPV_get : ∀ (k : Nat) (xs : List PV) (i : Nat), (enumPV k xs)[i]? = (xs[i]?).map fun x => .tup [.int ((k + i : Nat) : Int), x]
  | k, [], i => by simp [enumPV]
  | k, x :: xs, 0 => by simp [enumPV]
  | k, x :: xs, i + 1 => by
    have := enumPV_get (k + 1) xs i
    simp only [enumPV, List.getElem?_cons_succ, this]
    congr 3
    funext y; congr 3; omega
theorem enumPV_len : ∀ (k : Nat) (xs : List PV), (enumPV k xs).length = xs.length
  | k, [] => rfl
  | k, x :: xs => by simp [enumPV, enumPV_len (k + 1) xs]
/-- a new pair that stands still -/
theorem new_pair {x : V} {p : PV} {k : Nat} {T : Addr} (S : Sta Θ.K P B F H A ρ σ) (hT : H T = none) (hr : Rep Θ.K F p x) :
    ∃ F'', Sta Θ.K P B F'' (upd H T (.tup [.int (k : Nat), x])) A ρ σ ∧ Frm F H A F'' (upd H T (.tup [.int (k : Nat), x])) A [] ∧ Rep Θ.K F'' (.tup [.int (k : Nat), p]) (.ref T) := by
  have hF := S.freshF hT
  refine ⟨upd F T _, S.newF hT, Frm.newF hT hF, ?_⟩
  simp only [Rep]
  exact ⟨T, _, rfl, SqT.of upd_same, .cons rep_int (.cons (hr.mono (Evl.Ex.new hF)) Reps.nil)⟩
theorem wlk_enumL {xs : List PV} {vs : List V} (hK : X.K = Θ.K) (rp : Reps Θ.K F xs vs) {hd : List Nat} (st : ∀ F2 H2 A2, Evl.Ex F2 H2 → Evl.Ex F F2 → (hd ≠ [] → Frm F H (wipeA A hd) F2 H2 A2 []) → H2 a = some (.lst vs)) : Wlk Θ F H A hd (Ite X.K a) (enumPV 0 xs) := by
  intro P B F' H' A' ρ' σ' S x f i
  have h := st F' H' A' S.ext x f
  refine ⟨fun p hp => ?_, fun e => ⟨vs, SqL.of h, by rw [enumPV_len] at e; rw [← rp.len]; omega⟩⟩
  rw [enumPV_get] at hp
  cases hx : xs[i]? with
  | none => rw [hx] at hp; cases hp
  | some p0 =>
    rw [hx] at hp
    obtain ⟨w, hw, hr⟩ := rp.get hx
    refine ⟨⟨vs, w, SqL.of h, hw⟩, fun y' H'' ⟨T, y, e1, e2, e3, e4⟩ => ?_⟩
    have q := e4 vs (SqL.of h)
    rw [hw] at q; cases q
    cases hp
    subst e1 e3
    have := new_pair (k := i) S e2 (hr.mono x)
    simpa using this
theorem wlk_enumT {xs : List PV} {vs : List V} (hK : X.K = Θ.K) (rp : Reps Θ.K F xs vs) (st : SqT Θ.K F a vs) : Wlk Θ F H A [] (IteT X.K a) (enumPV 0 xs) := by
  intro P B F' H' A' ρ' σ' S x f i
  have h : SqT X.K H' a vs := by rw [hK]; exact Evl.ex_t (x.trans S.ext) st
  refine ⟨fun p hp => ?_, fun e => ⟨vs, h, by rw [enumPV_len] at e; rw [← rp.len]; omega⟩⟩
  rw [enumPV_get] at hp
  cases hx : xs[i]? with
  | none => rw [hx] at hp; cases hp
  | some p0 =>
    rw [hx] at hp
    obtain ⟨w, hw, hr⟩ := rp.get hx
    refine ⟨⟨vs, w, h, hw⟩, fun y' H'' ⟨T, y, e1, e2, e3, e4⟩ => ?_⟩
    have q := e4 vs h
    rw [hw] at q; cases q
    cases hp
    subst e1 e3
    have := new_pair (k := i) S e2 (hr.mono x)
    simpa using this
theorem tupO {xs : List PV} (S : Sta Θ.K P B F' H' A' ρ' σ) (r : ResO Θ F' σ o v) (hg : o.get ρ' = some (.tup xs)) : ∃ a vs, v = .ref a ∧ SqT Θ.K F' a vs ∧ Reps Θ.K F' xs vs := by
  have t : Rep Θ.K F' (.tup xs) v := ResO.tp r (Evl.Ex.refl _) S hg
  simpa only [Rep] using t
theorem it_seq (hK : X.K = Θ.K) {tg : Expr} {r : Rho → Rr Opd} (h : PE X x (tO Θ r P W)) : PI X tg x (tI Θ (seqW r) P W) := by
  refine PI.weak (pi_seqA h) fun σ H R q => ?_
  obtain ⟨B, F, A, ρ, S, q⟩ := q
  have q := Go.bnd q
  refine ⟨B, F, A, ρ, S, q.mono (fun o ρ' k y F' H' A' S' f r => ?_) fun _ _ k => k⟩
  cases hg : o.get ρ' with
  | none => rw [hg] at k; exact k.elim
  | some p =>
    rw [hg] at k
    cases p with
    | lst xs =>
      obtain ⟨a, vs, rfl, rp, h1, h2⟩ := walk_lst S' r hg
      exact ⟨a, vs, rfl, .inl ⟨SqL.of h1, (show okI Θ P B F H A σ R (xs, hidO ρ' o) ρ' from k) _ F' H' A' S' f (wlk_lst hK rp h2)⟩⟩
    | tup xs =>
      obtain ⟨a, vs, rfl, h1, rp⟩ := tupO S' r hg
      exact ⟨a, vs, rfl, .inr ⟨by rw [hK]; exact Evl.ex_t S'.ext h1, (show okI Θ P B F H A σ R (xs, []) ρ' from k) _ F' H' A' S' f (wlk_tup hK rp h1)⟩⟩
    | _ => exact k.elim
theorem it_enm (hK : X.K = Θ.K) {elts : List Expr} {kk : Nat} {tpos p : Pos} {r : Rho → Rr Opd} (hg : Gl X "enumerate") (hm : X.mg "enumerate" = none) (h : PE X x (tO Θ r P W)) (hs : starEach [x] X.env = (false, eval x X.env) :: starEach [] X.env) :
    PI X (.Tuple elts kk tpos) (.Call (.Name "enumerate" p) [x] [] pos) (tI Θ (enmW r) P W) := by
  refine PI.weak (pi_enmA hg hm h hs) fun σ H R q => ?_
  obtain ⟨B, F, A, ρ, S, q⟩ := q
  have q := Go.bnd q
  refine ⟨B, F, A, ρ, S, q.mono (fun o ρ' k y F' H' A' S' f r => ?_) fun _ _ k => k⟩
  cases hg : o.get ρ' with
  | none => rw [hg] at k; exact k.elim
  | some p =>
    rw [hg] at k
    cases p with
    | lst xs =>
      obtain ⟨a, vs, rfl, rp, h1, h2⟩ := walk_lst S' r hg
      exact ⟨a, vs, rfl, .inl ⟨SqL.of h1, (show okI Θ P B F H A σ R (enumPV 0 xs, hidO ρ' o) ρ' from k) _ F' H' A' S' f (wlk_enumL hK rp h2)⟩⟩
    | tup xs =>
      obtain ⟨a, vs, rfl, h1, rp⟩ := tupO S' r hg
      exact ⟨a, vs, rfl, .inr ⟨by rw [hK]; exact Evl.ex_t S'.ext h1, (show okI Θ P B F H A σ R (enumPV 0 xs, []) ρ' from k) _ F' H' A' S' f (wlk_enumT hK rp h1)⟩⟩
    | _ => exact k.elim
end
end KL
end
section
set_option Elab.async false
set_option linter.all false
set_option maxRecDepth 100000
/-! KA13: ranges walked; targets; comprehensions. -/
namespace KL
open PySem PySem.Spec PyProof.Rows L2
section
variable {Θ : Pm} {g : Gm} {P : List Nat} {W : WX} {X : Cx} {x : Expr} {B F F' F1 H H' H1 : Hp} {A A' A1 : Ad} {T : List Addr} {ρ ρ' : Rho} {σ σ' : L2.St} {a : Addr} {i : Nat} {o : Opd} {v : V} {pos : Pos}
/-! ### ranges -/
theorem rngPV_get {lo : Int} {n i : Nat} : (rngPV lo n)[i]? = if i < n then some (.int (lo + (i : Int))) else none := by
  unfold rngPV
  rw [List.getElem?_map]
  by_cases h : i < n
  · simp [h, List.getElem?_range]
  · rw [if_neg h]; simp; omega
theorem rngPV_len {lo : Int} {n : Nat} : (rngPV lo n).length = n := by simp [rngPV]
theorem wlk_rng {lo : Int} {n : Nat} : Wlk Θ F H A [] (Itr lo n) (rngPV lo n) := by
  intro P B F' H' A' ρ' σ' S _ f i
  refine ⟨fun p hp => ?_, fun e => by rw [rngPV_len] at e; exact Nat.le_of_eq e.symm⟩
  rw [rngPV_get] at hp
  split at hp
  · rename_i hi
    cases hp
    refine ⟨hi, fun x H'' ⟨e1, e2⟩ => ?_⟩
    subst e1 e2
    exact ⟨F', S, Frm.refl _ _ _, rep_int⟩
  · cases hp
def rng1W (ra : Rho → Rr Opd) (ρ : Rho) : Rr (List PV × List Nat) := (ra ρ).bnd fun x ρ => match x.get ρ with
    | some (.int j) => if -(2 ^ 62) ≤ j ∧ j < 2 ^ 62 then .ok (rngPV 0 j.toNat, []) ρ else .bad
    | _ => .bad
def rng2W (ra rb : Rho → Rr Opd) (ρ : Rho) : Rr (List PV × List Nat) := (ra ρ).bnd fun x ρ => (rb ρ).bnd fun y ρ => match x.get ρ, y.get ρ with
    | some (.int i), some (.int j) => if -(2 ^ 62) ≤ i ∧ i < 2 ^ 62 ∧ -(2 ^ 62) ≤ j ∧ j < 2 ^ 62 then .ok (rngPV i (j - i).toNat, []) ρ else .bad
    | _, _ => .bad
theorem it_rng1 {tg a : Expr} {ra : Rho → Rr Opd} {p : Pos} (hg : Gl X "range") (hm : X.mg "range" = none) (ha : PE X a (tO Θ ra P W)) (hs : starEach [a] X.env = (false, eval a X.env) :: starEach [] X.env) : PI X tg (.Call (.Name "range" p) [a] [] pos) (tI Θ (rng1W ra) P W) := by
  refine PI.weak (pi_range1 hg hm (os_cons ha os_nil hs) (by rw [hs]; rfl)) fun σ H R q => ?_
  obtain ⟨B, F, A, ρ, S, q⟩ := q
  have q := Go.bnd q
  refine ⟨B, F, A, ρ, S, ?_⟩
  show Go ((ra ρ).bnd _) _ _
  cases hr : ra ρ with
  | bad => rw [hr] at q; exact q.elim
  | exc p' ρ' => rw [hr] at q; exact q
  | ok o ρ' =>
    rw [hr] at q
    intro ys F' H' A' S' f r
    obtain ⟨y, r0, rfl, r1, rfl⟩ := r
    have k : Go (match o.get ρ' with
    | some (.int j) => if -(2 ^ 62) ≤ j ∧ j < 2 ^ 62 then Rr.ok (rngPV 0 j.toNat, []) ρ' else .bad
    | _ => .bad) (okI Θ P B F H A σ R) (exE Θ P B F H A σ W) := q
    cases hgv : o.get ρ' with
    | none => rw [hgv] at k; exact k.elim
    | some pv =>
      rw [hgv] at k
      have t := ResO.tp r1 (Evl.Ex.refl _) S' hgv
      cases pv with
      | int j =>
        have k : Go (if -(2 ^ 62) ≤ j ∧ j < 2 ^ 62 then Rr.ok (rngPV 0 j.toNat, []) ρ' else .bad) (okI Θ P B F H A σ R) (exE Θ P B F H A σ W) := k
        split at k
        · rename_i hz
          exact ⟨j, by rw [tp_int t], hz.1, hz.2, (show okI Θ P B F H A σ R (rngPV 0 j.toNat, []) ρ' from k) _ F' H' A' S' f wlk_rng⟩
        · exact k.elim
      | _ => exact k.elim
theorem it_rng2 {tg a b : Expr} {ra rb : Rho → Rr Opd} {p : Pos} (hg : Gl X "range") (hm : X.mg "range" = none) (ha : PE X a (tO Θ ra P W)) (hb : PE X b (tO Θ rb P W)) (hs : starEach [a, b] X.env = (false, eval a X.env) :: starEach [b] X.env) (hs2 : starEach [b] X.env = (false, eval b X.env) :: starEach [] X.env) :
    PI X tg (.Call (.Name "range" p) [a, b] [] pos) (tI Θ (rng2W ra rb) P W) := by
  refine PI.weak (pi_range2 hg hm (os_cons ha (os_cons hb os_nil hs2) hs) (by rw [hs, hs2]; rfl) (by rw [hs2]; rfl)) fun σ H R q => ?_
  obtain ⟨B, F, A, ρ, S, q⟩ := q
  have q := Go.bnd q
  refine ⟨B, F, A, ρ, S, ?_⟩
  show Go ((ra ρ).bnd _) _ _
  cases hr : ra ρ with
  | bad => rw [hr] at q; exact q.elim
  | exc p' ρ' => rw [hr] at q; exact q
  | ok o ρ' =>
    rw [hr] at q
    have q := Go.bnd q
    show Go ((((rb ρ').bnd fun o ρ => (Rr.ok [] ρ).bnd fun os ρ => .ok (o :: os) ρ)).bnd fun os ρ => Rr.ok (o :: os) ρ) _ _
    cases hr2 : rb ρ' with
    | bad => rw [hr2] at q; exact q.elim
    | exc p' ρ2 => rw [hr2] at q; exact q
    | ok o2 ρ2 =>
      rw [hr2] at q
      intro ys F' H' A' S' f r
      obtain ⟨y, r0, rfl, r1, y2, r3, rfl, r4, rfl⟩ := r
      have k : Go (match o.get ρ2, o2.get ρ2 with
    | some (.int i), some (.int j) => if -(2 ^ 62) ≤ i ∧ i < 2 ^ 62 ∧ -(2 ^ 62) ≤ j ∧ j < 2 ^ 62 then Rr.ok (rngPV i (j - i).toNat, []) ρ2 else .bad
    | _, _ => .bad) (okI Θ P B F H A σ R) (exE Θ P B F H A σ W) := q
      cases hgv : o.get ρ2 with
      | none => rw [hgv] at k; exact k.elim
      | some pv =>
        cases hgw : o2.get ρ2 with
        | none => rw [hgv, hgw] at k; cases pv <;> exact k.elim
        | some pw =>
          rw [hgv, hgw] at k
          have t := ResO.tp r1 (Evl.Ex.refl _) S' hgv
          have t2 := ResO.tp r4 (Evl.Ex.refl _) S' hgw
          cases pv with
          | int i =>
            cases pw with
            | int j =>
              replace k : Go (if -(2 ^ 62) ≤ i ∧ i < 2 ^ 62 ∧ -(2 ^ 62) ≤ j ∧ j < 2 ^ 62 then Rr.ok (rngPV i (j - i).toNat, []) ρ2 else .bad) (okI Θ P B F H A σ R) (exE Θ P B F H A σ W) := k
              split at k
              · rename_i hz
                exact ⟨i, j, by rw [tp_int t, tp_int t2], hz, (show okI Θ P B F H A σ R (rngPV i (j - i).toNat, []) ρ2 from k) _ F' H' A' S' f wlk_rng⟩
              · exact k.elim
            | _ => exact (show False from k).elim
          | _ => exact (show False from k).elim

/-! ### targets -/
def gMany : List Nat → TGs
  | [] => gNil
  | i :: is => gCons (gName i) (gMany is)
def tgG (K : PySem.W.Frag) : Tgt → TG
  | .one i => gName i
  | .many is => gTup K is.length (gMany is)
/-- a slot is bound to what stands still -/
theorem set_shr {p : PV} (S : Sta Θ.K P B F H A ρ σ) (h : Rep Θ.K F p v) (i : Nat) : ∃ A1, Sta Θ.K P B F H A1 (ρ.set i (.shr p)) (σ.set i (some v)) ∧ Frm F H A F H A1 [] := by
  by_cases hi : i < ρ.length
  · refine ⟨setA A i [], S.put S.ext (Evl.Ex.refl _) (fun _ _ _ _ q => q) (fun _ _ _ _ _ q => q) hi ⟨rfl, _, rfl, h⟩ List.nodup_nil (fun _ _ _ _ z => nomatch z) (fun _ _ z => nomatch z) S.mono (fun _ z => nomatch z), Evl.Ex.refl _, fun a o h1 h2 _ => ⟨h1, h2⟩, fun a h => ?_, (fun _ z => nomatch z), fun _ h => h⟩
    rcases oa_set h with h | ⟨j, _, h⟩
    · cases h
    · exact .inl ⟨j, h⟩
  · have e1 : ρ.set i (.shr p) = ρ := by rw [List.set_eq_of_length_le]; omega
    have e2 : σ.set i (some v) = σ := by rw [List.set_eq_of_length_le]; rw [← S.len]; omega
    rw [e1, e2]
    exact ⟨A, S, Frm.refl _ _ _⟩
theorem bindMany_ok : ∀ {is : List Nat} {ps : List PV} {vs : List V} {ρ ρ1 : Rho} {σ : L2.St} {A : Ad}, bindMany is ps ρ = some ρ1 → Sta Θ.K P B F H A ρ σ → Reps Θ.K F ps vs →
    ∃ σ1 A1, Sta Θ.K P B F H A1 ρ1 σ1 ∧ Frm F H A F H A1 [] ∧ σ1.length = σ.length ∧ (∀ j, j ∉ is → σ1[j]? = σ[j]?) ∧ vs.length = is.length ∧ ∀ Q : L2.St → Hp → Prop, Q σ1 H → gMany is vs σ H Q
  | [], [], vs, ρ, ρ1, σ, A, h, S, r => by
    cases h
    simp only [Reps] at r; subst r
    exact ⟨σ, A, S, Frm.refl _ _ _, rfl, fun _ _ => rfl, rfl, fun Q q => ⟨rfl, q⟩⟩
  | [], _ :: _, _, _, _, _, _, h, _, _ => by cases h
  | _ :: _, [], _, _, _, _, _, h, _, _ => by cases h
  | i :: is, p :: ps, vs, ρ, ρ1, σ, A, h, S, r => by
    simp only [Reps] at r
    obtain ⟨w, ws, rfl, r1, r2⟩ := r
    obtain ⟨A2, S2, f2⟩ := set_shr S r1 i
    obtain ⟨σ1, A1, S1, f1, hl, hs, hn, hq⟩ := bindMany_ok (show bindMany is ps (ρ.set i (.shr p)) = some ρ1 from h) S2 r2
    refine ⟨σ1, A1, S1, f2.trans f1, by rw [hl, List.length_set], fun j hj => ?_, by simp [hn], fun Q q => ⟨w, ws, rfl, hq Q q⟩⟩
    rw [hs j fun z => hj (by simp [z]), List.getElem?_set_ne]
    rintro rfl; exact hj (by simp)
theorem tg_ok (hK : X.K = Θ.K) {tg : Tgt} {p : PV} {ρ1 : Rho} (h : bindTg tg p ρ = some ρ1) (S : Sta Θ.K P B F H A ρ σ) (r : Rep Θ.K F p v) :
    ∃ σ1 A1, Sta Θ.K P B F H A1 ρ1 σ1 ∧ Frm F H A F H A1 [] ∧ σ1.length = σ.length ∧ (∀ j, j ∉ tgSlots tg → σ1[j]? = σ[j]?) ∧ ∀ Q : L2.St → Hp → Prop, Q σ1 H → tgG X.K tg v σ H Q := by
  cases tg with
  | one i =>
    cases h
    obtain ⟨A2, S2, f2⟩ := set_shr S r i
    refine ⟨_, A2, S2, f2, by rw [List.length_set], fun j hj => ?_, fun Q q => q⟩
    rw [List.getElem?_set_ne]
    rintro rfl; exact hj (by simp [tgSlots])
  | many is =>
    cases p with
    | tup ps =>
      simp only [Rep] at r
      obtain ⟨a, vs, rfl, h1, h2⟩ := r
      obtain ⟨σ1, A1, S1, f1, hl, hs, hn, hq⟩ := bindMany_ok (show bindMany is ps ρ = some ρ1 from h) S h2
      exact ⟨σ1, A1, S1, f1, hl, hs, fun Q q => ⟨a, vs, rfl, by rw [hK]; exact Evl.ex_t S.ext h1, hn, hq Q q⟩⟩
    | _ => cases h

/-! ### what a comprehension gathers -/
theorem Ress.on {K : PySem.W.Frag} {T1 : List Addr} (f : Frm F H A F1 H1 A1 T1) : ∀ {ss : List SV} {xs : List V} {T : List Addr}, TOk A F H T → Ress K F H ss xs T → Ress K F1 H1 ss xs T
  | [], _, _, _, h => h
  | s :: ss, xs, T, t, h => by
    obtain ⟨x, r, T1, T2, rfl, rfl, h1, h2⟩ := h
    have nd := List.nodup_append.mp t.nd
    exact ⟨x, r, T1, T2, rfl, rfl, h1.on (t.sub (fun a h => List.mem_append_left _ h) nd.1) f, h2.on f (t.sub (fun a h => List.mem_append_right _ h) nd.2.1)⟩
theorem Ress.snoc {K : PySem.W.Frag} {s : SV} {y : V} {U : List Addr} (h : Res K F H [] (.imm s) y U) : ∀ {ss : List SV} {xs : List V} {T : List Addr}, Ress K F H ss xs T → Ress K F H (ss ++ [s]) (xs ++ [y]) (T ++ U)
  | [], _, _, r => by obtain ⟨rfl, rfl⟩ := r; exact ⟨y, [], U, [], rfl, by simp, h, rfl, rfl⟩
  | s' :: ss, xs, T, r => by
    obtain ⟨x, r, T1, T2, rfl, rfl, h1, h2⟩ := r
    exact ⟨x, r ++ [y], T1, T2 ++ U, rfl, by simp, h1, Ress.snoc h h2⟩
theorem Cont.sub {K : PySem.W.Frag} {p : PV} {D : Addr} {u : HO} (c : Cont K F H a p) (ne : a ≠ D) : Cont K F (upd H D u) a p := c.on (Evl.Ex.refl _) fun o h => by rw [upd_ne ne]; exact h
theorem Res.upd {K : PySem.W.Frag} {s : SV} {y : V} {D : Addr} {u : HO} (r : Res K F H σ (.imm s) y T) (hD : D ∉ T) : Res K F (upd H D u) σ (.imm s) y T := by
  cases s with
  | shr p => exact r
  | own p => obtain ⟨b, rfl, e, c⟩ := r; exact ⟨b, rfl, e, c.sub (by rintro rfl; exact hD (by simp))⟩
  | own2 p => obtain ⟨b, bs, rfl, e, c⟩ := r; exact ⟨b, bs, rfl, e, c.on (Evl.Ex.refl _) fun b' hb o h => by
      rw [upd_ne]; exact h
      rintro rfl; exact hD hb⟩
  | un => exact r.elim
  | frz2 _ => exact r.elim
theorem Ress.upd {K : PySem.W.Frag} {D : Addr} {u : HO} : ∀ {ss : List SV} {xs : List V} {T : List Addr}, D ∉ T → Ress K F H ss xs T → Ress K F (upd H D u) ss xs T
  | [], _, _, _, h => h
  | s :: ss, xs, T, hD, h => by
    obtain ⟨x, r, T1, T2, rfl, rfl, h1, h2⟩ := h
    exact ⟨x, r, T1, T2, rfl, rfl, h1.upd (fun z => hD (List.mem_append_left _ z)), Ress.upd (fun z => hD (List.mem_append_right _ z)) h2⟩
/-- the new list at D holds what ss tells; F1, H1, A1: where the comprehension began -/
def LcS (Θ : Pm) (P : List Nat) (B F1 H1 : Hp) (A1 : Ad) (D : Addr) (ss : List SV) (F H : Hp) (A : Ad) (ρ : Rho) (σ : L2.St) : Prop := ∃ T acc, Sta Θ.K P B F H A ρ σ ∧ Frm F1 H1 A1 F H A (D :: T) ∧ TOk A F H (D :: T) ∧ H D = some (.lst acc) ∧ Ress Θ.K F H ss acc T
variable {D : Addr} {ss : List SV}
theorem TOk.in_ (t : TOk A F H (a :: T)) : TOk A F H T := t.sub (fun _ h => List.mem_cons_of_mem _ h) (List.nodup_cons.mp t.nd).2
theorem LcS.on (L : LcS Θ P B F1 H1 A1 D ss F H A ρ σ) (S : Sta Θ.K P B F' H' A' ρ' σ') (f : Frm F H A F' H' A' []) : LcS Θ P B F1 H1 A1 D ss F' H' A' ρ' σ' := by
  obtain ⟨T, acc, S0, f0, t0, hD, r⟩ := L
  have q := f.keep D _ (t0.no D (by simp)) hD (t0.ap D (by simp))
  exact ⟨T, acc, S, by have := f0.trans f; rwa [List.append_nil] at this, t0.on f, q.2, r.on f t0.in_⟩
theorem LcS.push {s : SV} {y : V} (L : LcS Θ P B F1 H1 A1 D ss F H A ρ σ) (S : Sta Θ.K P B F' H' A' ρ' σ') (f : Frm F H A F' H' A' T) (t : TOk A' F' H' T) (r : Res Θ.K F' H' σ' (.imm s) y T) :
    ∃ acc, H' D = some (.lst acc) ∧ acc.length = ss.length ∧ LcS Θ P B F1 H1 A1 D (ss ++ [s]) F' (upd H' D (.lst (acc ++ [y]))) A' ρ' σ' := by
  obtain ⟨T0, acc, S0, f0, t0, hD, r0⟩ := L
  have q := f.keep D _ (t0.no D (by simp)) hD (t0.ap D (by simp))
  have t1 : TOk A' F' H' (D :: T0 ++ T) := t0.app f t
  have f1 : Frm F1 H1 A1 F' H' A' (D :: T0 ++ T) := f0.trans f
  have nD : D ∉ T0 ++ T := (List.nodup_cons.mp (show (D :: (T0 ++ T)).Nodup from t1.nd)).1
  have hd1 : H1 D = none := f0.tn D (by simp)
  have r' : Res Θ.K F' H' [] (.imm s) y T := by cases s <;> exact r
  refine ⟨acc, q.2, r0.len, T0 ++ T, acc ++ [y], ?_, ⟨f1.ext, fun a o h1 h2 h3 => ?_, f1.own, f1.tn, fun a h => ?_⟩, ⟨t1.nd, t1.ap, t1.no, fun a h => ?_⟩, upd_same, ?_⟩
  · refine S.on (fun b u z => ?_) (Evl.Ex.refl _) (fun _ _ z => z) (fun b hb u z => ?_) (upd_there S.mono)
    · rw [upd_ne]; exact S.ext b u z
      rintro rfl; rw [q.1] at z; cases z
    · rw [upd_ne]; exact z
      rintro rfl; exact t1.ap b (by simp) hb
  · obtain ⟨k1, k2⟩ := f1.keep a o h1 h2 h3
    refine ⟨k1, ?_⟩
    rw [upd_ne]; exact k2
    rintro rfl; rw [hd1] at h2; cases h2
  · by_cases e : a = D
    · subst e; rw [upd_same]; exact fun z => nomatch z
    · rw [upd_ne e]; exact f1.fre a h
  · by_cases e : a = D
    · subst e; rw [upd_same]; exact fun z => nomatch z
    · rw [upd_ne e]; exact t1.th a h
  · exact ((r0.on f t0.in_).snoc r').upd nD
theorem LcS.new (S : Sta Θ.K P B F H A ρ σ) (hD : H D = none) : LcS Θ P B F H A D [] F (upd H D (.lst [])) A ρ σ :=
  ⟨[], [], S.newH hD, Frm.newH hD, TOk.newH S hD, upd_same, rfl, rfl⟩
/-- all of ss come to stand still, the list itself does not -/
theorem Ress.frzU {K : PySem.W.Frag} {F0 H0 : Hp} {A0 : Ad} {U : List Addr} : ∀ {ss : List SV} {xs : List V} {T : List Addr} {F : Hp}, Sta K P B F H A ρ σ → Frm F0 H0 A0 F H A (T ++ U) → TOk A F H (T ++ U) → Ress K F H ss xs T →
    ∃ F2, Sta K P B F2 H A ρ σ ∧ Frm F0 H0 A0 F2 H A U ∧ TOk A F2 H U ∧ Evl.Ex F F2 ∧ Reps K F2 (ss.map SV.val) xs
  | [], xs, T, F, S, f, t, h => by
    obtain ⟨rfl, rfl⟩ := h
    exact ⟨F, S, f, t, Evl.Ex.refl _, Reps.nil⟩
  | s :: ss, xs, T, F, S, f, t, h => by
    obtain ⟨x, r, T1, T2, rfl, rfl, h1, h2⟩ := h
    obtain ⟨F2, S2, f2, t2, e2, r2⟩ := Res.frzT S (by rw [← List.append_assoc]; exact f) (by rw [← List.append_assoc]; exact t) h1
    obtain ⟨F3, S3, f3, t3, e3, r3⟩ := Ress.frzU S2 f2 t2 (h2.ex e2)
    exact ⟨F3, S3, f3, t3, e2.trans e3, .cons (r2.mono e3) r3⟩
/-- the list that has been gathered -/
theorem LcS.pack {d : Bool} {s : SV} {Q : VK} {acc : List V} (S : Sta Θ.K P B F' H' A' ρ' σ) (f : Frm F H A F' H' A' (D :: T)) (t : TOk A' F' H' (D :: T)) (hD : H' D = some (.lst acc)) (r : Ress Θ.K F' H' ss acc T)
    (hp : packL d ss = some s) (k : okE Θ P B F H A σ Q (.imm s) ρ') : Q (.ref D) H' := by
  unfold packL at hp
  cases d with
  | false =>
    cases hp
    have pm : ∀ a ∈ T ++ [D], a ∈ D :: T := fun a h => by
      rcases List.mem_append.mp h with h | h
      · exact List.mem_cons_of_mem _ h
      · rw [List.mem_singleton.mp h]; exact List.mem_cons_self ..
    have nd : (T ++ [D]).Nodup := by
      have := List.nodup_cons.mp t.nd
      refine List.nodup_append.mpr ⟨this.2, by simp, fun a ha b hb e => ?_⟩
      rw [List.mem_singleton.mp hb] at e
      exact this.1 (e ▸ ha)
    obtain ⟨F2, S2, f2, t2, e2, r2⟩ := Ress.frzU S (f.sub pm) (t.sub pm nd) r
    exact k (.ref D) F2 H' A' [D] S2 f2 t2 ⟨D, rfl, rfl, acc, hD, r2⟩
  | true =>
    have hp : (if ss.all isOwnL = true then some (SV.own2 (.lst (ss.map SV.val))) else none) = some s := hp
    split at hp
    · rename_i ha
      cases hp
      obtain ⟨rfl, pr⟩ := Ress.deep ha r
      exact k (.ref D) F' H' A' (D :: T) S f t ⟨D, T, rfl, rfl, hD, pr⟩
    · cases hp
end
end KL
end
section
set_option Elab.async false
set_option linter.all false
set_option maxRecDepth 100000
/-! KA14: comprehensions. -/
namespace KL
open PySem PySem.Spec PyProof.Rows L2
theorem wipe_get : ∀ (vs : List Nat) (σ : L2.St) (j : Nat), (L2.wipe σ vs)[j]? = if j ∈ vs then (σ[j]?).map fun _ => none else σ[j]?
  | [], σ, j => by simp [L2.wipe]
  | v :: vs, σ, j => by
    unfold L2.wipe
    by_cases e : v = j
    · subst e
      rw [List.getElem?_set_self' , wipe_get vs σ v]
      by_cases q : v ∈ vs <;> cases σ[v]? <;> simp [q]
    · rw [List.getElem?_set_ne e, wipe_get vs σ j]
      have : j ≠ v := fun z => e z.symm
      simp [this]
/-- a test's truth -/
def tB (Θ : Pm) (r : Rho → Rr Bool) (P : List Nat) (W : WX) : TT := fun σ H Q => ∃ B F A ρ, Sta Θ.K P B F H A ρ σ ∧ Go (r ρ) (fun b ρ' => ∀ F' H' A', Sta Θ.K P B F' H' A' ρ' σ → Frm F H A F' H' A' [] → Q b H') (exE Θ P B F H A σ W)
def bodyR (rt : Rho → Rr Bool) (re : Rho → Rr Opd) (ρ : Rho) : Rr (Option SV) := (rt ρ).bnd fun b ρ => if b then (re ρ).bnd fun v ρ => .ok (some v.sv) ρ else .ok none ρ
def lcV (d : Bool) (ri : Rho → Rr (List PV × List Nat)) (tg : Tgt) (own : List Nat) (body : Rho → Rr (Option SV)) (ρ : Rho) : Rr SV := (ri ρ).bnd fun xs ρ =>
      if notOwn ρ own && apart own xs.2 && decide (xs.1.length ≤ big) then
        match lcL tg own body xs.1 (wipeR ρ (xs.2 ++ own)) with
        | .ok vs ρ' => Rr.of (packL d vs) (backR ρ ρ' (xs.2 ++ own))
        | _ => .bad
      else .bad
section
variable {Θ : Pm} {g : Gm} {P : List Nat} {W W0 : WX} {X : Cx} {x : Expr} {B F F' F1 H H' H1 : Hp} {A A' A1 : Ad} {T : List Addr} {ρ ρ' ρ1 ρ2 : Rho} {σ σ' σ2 : L2.St} {a : Addr} {i : Nat} {o : Opd} {v : V} {pos : Pos} {D : Addr} {ss : List SV}
theorem wipe_same {vs : List Nat} (hl : σ2.length = σ.length) (h : ∀ j, j ∉ vs → σ2[j]? = σ[j]?) : L2.wipe σ2 vs = L2.wipe σ vs := by
  apply List.ext_getElem?
  intro j
  rw [wipe_get, wipe_get]
  by_cases q : j ∈ vs
  · rw [if_pos q, if_pos q]
    by_cases z : j < σ.length
    · simp [z, show j < σ2.length by omega]
    · simp [z, show ¬ j < σ2.length by omega]
  · rw [if_neg q, if_neg q, h j q]
theorem wipe_wipe {vs : List Nat} : L2.wipe (L2.wipe σ vs) vs = L2.wipe σ vs := wipe_same (wipe_length σ vs) fun j hj => by rw [wipe_get, if_neg hj]
theorem opt_len (oo : Option SV) : oo.toList.length ≤ 1 := by cases oo <;> simp
/-- one turn's test and item -/
theorem body_ok {rt : Rho → Rr Bool} {re : Rho → Rr Opd} {oo : Option SV} {Nx : Hp → Prop} (hr : ∀ ρ o ρ', re ρ = .ok o ρ' → ∃ s, o = .imm s) (L : LcS Θ P B F1 H1 A1 D ss F H A ρ σ) (hb : bodyR rt re ρ = .ok oo ρ2) (hz : ss.length + oo.toList.length ≤ big)
    (h : ∀ F' H' A', LcS Θ P B F1 H1 A1 D (ss ++ oo.toList) F' H' A' ρ2 σ → Evl.Ex F F' → Nx H') :
    tB Θ rt P W0 σ H fun b H3 => if b = true then tG Θ re P W0 σ H3 (fun y H4 => ∃ acc, H4 D = some (.lst acc) ∧ acc.length < sizeLine ∧ Nx (upd H4 D (.lst (acc ++ [y])))) else Nx H3 := by
  obtain ⟨T0, acc0, S, f0, t0, hD, r0⟩ := id L
  refine ⟨B, F, A, ρ, S, ?_⟩
  unfold bodyR at hb
  cases ht : rt ρ with
  | bad => rw [ht] at hb; cases hb
  | exc p ρ' => rw [ht] at hb; cases hb
  | ok b ρ' =>
    rw [ht] at hb
    intro F2 H2 A2 S2 f2
    have hb : (if b = true then (re ρ').bnd fun v ρ => Rr.ok (some v.sv) ρ else .ok none ρ') = .ok oo ρ2 := hb
    cases b with
    | false =>
      rw [if_neg Bool.false_ne_true] at hb ⊢
      cases hb
      exact h F2 H2 A2 (by simpa using L.on S2 f2) f2.ext
    | true =>
      rw [if_pos rfl] at hb ⊢
      refine ⟨B, F2, A2, ρ', S2, ?_⟩
      cases he : re ρ' with
      | bad => rw [he] at hb; cases hb
      | exc p ρ'' => rw [he] at hb; cases hb
      | ok o ρ'' =>
        rw [he] at hb
        cases hb
        obtain ⟨s, rfl⟩ := hr _ _ _ he
        intro y F3 H3 A3 T3 S3 f3 t3 r3
        obtain ⟨acc, q1, q2, q3⟩ := (L.on S2 f2).push S3 f3 t3 r3
        exact ⟨acc, q1, by rw [q2]; exact hz, h _ _ _ q3 (f2.ext.trans f3.ext)⟩
/-- behind a turn: the block's own names are forgotten -/
theorem LcS.turn {vs : List Nat} (L : LcS Θ P B F1 H1 A1 D ss F H A ρ σ2) (hl : σ2.length = σ.length) (hs : ∀ j, j ∉ vs → σ2[j]? = σ[j]?) : LcS Θ P B F1 H1 A1 D ss F H (wipeA A vs) (wipeR ρ vs) (L2.wipe σ vs) := by
  obtain ⟨T0, acc0, S, f0, t0, hD, r0⟩ := id L
  exact L.on (S.wipe vs (by rw [wipe_length, hl]) (fun j hj => by rw [wipe_get, if_neg hj, hs j hj]) (fun j hj => .inl hj) fun j v h _ => S.np j v h) (Frm.wipe F H A vs)
theorem lcL_cons {tg : Tgt} {own : List Nat} {body : Rho → Rr (Option SV)} {p : PV} {ps : List PV} {r : List SV} {ρe : Rho} (h : lcL tg own body (p :: ps) ρ = .ok r ρe) :
    ∃ ρ1 o ρ2 r2, bindTg tg p ρ = some ρ1 ∧ body ρ1 = .ok o ρ2 ∧ lcL tg own body ps (wipeR ρ2 own) = .ok r2 ρe ∧ r = o.toList ++ r2 := by
  unfold lcL at h
  cases h1 : bindTg tg p ρ with
  | none => rw [h1] at h; cases h
  | some ρ1 =>
    rw [h1] at h
    have h : (match body ρ1 with
      | .ok o ρ2 => match lcL tg own body ps (wipeR ρ2 own) with
        | .ok r ρ3 => (match o with | some v => Rr.ok (v :: r) ρ3 | none => .ok r ρ3)
        | _ => .bad
      | _ => .bad) = .ok r ρe := h
    cases h2 : body ρ1 with
    | bad => rw [h2] at h; cases h
    | exc _ _ => rw [h2] at h; cases h
    | ok o ρ2 =>
      rw [h2] at h
      have h : (match lcL tg own body ps (wipeR ρ2 own) with
        | .ok r ρ3 => (match o with | some v => Rr.ok (v :: r) ρ3 | none => .ok r ρ3)
        | _ => .bad) = .ok r ρe := h
      cases h3 : lcL tg own body ps (wipeR ρ2 own) with
      | bad => rw [h3] at h; cases h
      | exc _ _ => rw [h3] at h; cases h
      | ok r2 ρ3 =>
        rw [h3] at h
        cases o with
        | none => cases h; exact ⟨ρ1, none, ρ2, _, rfl, h2, h3, rfl⟩
        | some v => cases h; exact ⟨ρ1, some v, ρ2, r2, rfl, h2, h3, rfl⟩
theorem drop_of {α : Type} {xs : List α} {i : Nat} (h : i < xs.length) : ∃ p, xs[i]? = some p ∧ xs.drop i = p :: xs.drop (i + 1) := ⟨xs[i], by simp [h], by rw [List.drop_eq_getElem_cons h]⟩
/-- the run of a list comprehension -/
theorem lc_run (hK : X.K = Θ.K) {tg : Tgt} {own : List Nat} {rt : Rho → Rr Bool} {re : Rho → Rr Opd} {ri : Rho → Rr (List PV × List Nat)} {d : Bool} {Q : VK} (hr : ∀ ρ o ρ', re ρ = .ok o ρ' → ∃ s, o = .imm s) (htg : ∀ i ∈ tgSlots tg, i ∈ own)
    (h : tG Θ (vR (lcV d ri tg own (bodyR rt re))) P W σ H Q) : tLc (tI Θ ri P W) (tgG X.K tg) (tB Θ rt P W0) (tG Θ re P W0) own σ H Q := by
  obtain ⟨B, F, A, ρ, S, q⟩ := h
  have q := Go.bnd (Go.bnd q)
  refine ⟨B, F, A, ρ, S, q.mono (fun p ρ1 k J F1 H1 A1 S1 f1 wk D hD => ?_) fun _ _ k => k⟩
  split at k
  · rename_i hc
    simp only [Bool.and_eq_true, decide_eq_true_eq] at hc
    obtain ⟨_, hz⟩ := hc
    cases hl : lcL tg own (bodyR rt re) p.1 (wipeR ρ1 (p.2 ++ own)) with
    | bad => rw [hl] at k; exact k.elim
    | exc _ _ => rw [hl] at k; exact k.elim
    | ok vs ρe =>
      rw [hl] at k
      obtain ⟨s, hs, k2⟩ := Go.of (show Go (Rr.of (packL d vs) (backR ρ1 ρe (p.2 ++ own))) _ _ from k)
      clear k
      -- the start
      have Sw : Sta Θ.K P B F1 H1 (wipeA A1 (p.2 ++ own)) (wipeR ρ1 (p.2 ++ own)) (L2.wipe σ own) := S1.wipe (p.2 ++ own) (wipe_length σ own) (fun j hj => by rw [wipe_get, if_neg fun z => hj (List.mem_append_right _ z)]) (fun j hj => .inl hj) fun j v h _ => S1.np j v h
      have bk : p.2 ≠ [] → ∀ F' H' A', Frm F1 H1 (wipeA A1 (p.2 ++ own)) F' H' A' [] → Frm F1 H1 (wipeA A1 p.2) F' H' A' [] := fun _ F' H' A' f => by
        refine ⟨f.ext, fun a o h1 h2 h3 => f.keep a o h1 h2 fun z => ?_, fun a z => ?_, f.tn, f.fre⟩
        · obtain ⟨j, hj, hb⟩ := oa_wipe z
          exact h3 ⟨j, by unfold wipeA; rw [if_neg fun z => hj (List.mem_append_left _ z)]; exact hb⟩
        · rcases f.own a z with z | z
          · obtain ⟨j, hj, hb⟩ := oa_wipe z
            exact .inl ⟨j, by unfold wipeA; rw [if_neg fun z => hj (List.mem_append_left _ z)]; exact hb⟩
          · exact .inr z
      refine ⟨fun i m H => ∃ F A ρ ss r, m = p.1.length - i ∧ i ≤ p.1.length ∧ ss.length ≤ i ∧ LcS Θ P B F1 H1 (wipeA A1 (p.2 ++ own)) D ss F H A ρ (L2.wipe σ own) ∧ lcL tg own (bodyR rt re) (p.1.drop i) ρ = .ok r ρe ∧ ss ++ r = vs ∧ ρ.length = ρ1.length,
        ⟨p.1.length, F1, _, _, [], vs, by simp, Nat.zero_le _, Nat.le_refl _, LcS.new Sw hD, hl, rfl, wipeR_len _ _⟩, ?_⟩
      rintro i m H2 ⟨F2, A2, ρ2, ss, r, rfl, hi, hss, L, hr2, hv, hlen⟩
      obtain ⟨T0, acc0, S2, f2, t2, hD2, r2⟩ := id L
      have wk2 := wk P B F2 H2 A2 ρ2 _ S2 f2.ext (fun z => bk z _ _ _ f2.drop) i
      by_cases hlt : i < p.1.length
      · obtain ⟨pv, hp, hd⟩ := drop_of hlt
        rw [hd] at hr2
        obtain ⟨ρ3, oo, ρ4, r3, b1, b2, b3, rfl⟩ := lcL_cons hr2
        obtain ⟨go, yl⟩ := wk2.1 pv hp
        refine .inr ⟨go, fun H' => ∃ F A ρ, LcS Θ P B F1 H1 (wipeA A1 (p.2 ++ own)) D (ss ++ oo.toList) F H' A ρ (L2.wipe σ own) ∧ lcL tg own (bodyR rt re) (p.1.drop (i + 1)) ρ = .ok r3 ρe ∧ ρ.length = ρ1.length, fun H' ⟨F', A', ρ', L', e', z'⟩ => ?_, fun y H3 hy => ?_⟩
        · refine ⟨p.1.length - (i + 1), by omega, F', A', ρ', _, r3, rfl, hlt, ?_, L', e', by rw [← hv]; simp, z'⟩
          rw [List.length_append]
          cases oo <;> simp <;> omega
        · obtain ⟨F3, S3, f3, ry⟩ := yl y H3 hy
          obtain ⟨σ4, A4, S4, f4, hl4, hs4, hq4⟩ := tg_ok hK b1 S3 ry
          refine hq4 _ ?_
          have hs5 : ∀ j, j ∉ own → σ4[j]? = (L2.wipe σ own)[j]? := fun j hj => hs4 j fun z => hj (htg j z)
          refine ⟨(wipe_same hl4 hs5).trans wipe_wipe, ?_⟩
          have L4 := (L.on S3 f3).on S4 f4
          have hb := body_ok (W0 := W0) (Nx := fun H' => ∃ F A ρ, LcS Θ P B F1 H1 (wipeA A1 (p.2 ++ own)) D (ss ++ oo.toList) F H' A ρ (L2.wipe σ own) ∧ lcL tg own (bodyR rt re) (p.1.drop (i + 1)) ρ = .ok r3 ρe ∧ ρ.length = ρ1.length) hr L4 b2 (Nat.le_trans (Nat.add_le_add_left (opt_len oo) _) (by omega)) fun F5 H5 A5 L5 _ => ?_
          · exact hb
          · have L6 := L5.turn hl4 hs5
            rw [wipe_wipe] at L6
            obtain ⟨_, _, S6, _⟩ := id L6
            obtain ⟨_, _, S0, _⟩ := id L
            exact ⟨F5, _, _, L6, b3, by rw [S6.len, ← S0.len, hlen]⟩
      · have e : i = p.1.length := by omega
        subst e
        refine .inl ⟨wk2.2 rfl, ?_⟩
        rw [List.drop_length] at hr2
        cases hr2
        rw [List.append_nil] at hv
        subst hv
        have Sb := S1.back (τ := σ) S2 f2 (by rw [hlen]) (fun _ _ => rfl) (fun j hj => by rw [wipe_get, if_neg fun z => hj (List.mem_append_right _ z)]) rfl (fun _ _ h => h) (fun _ _ h => h)
        exact LcS.pack Sb (f1.trans f2.back) (TOk.back S1 f2 t2) hD2 r2 hs k2
  · exact k.elim
theorem lcL2_cons {tg tg2 : Tgt} {own own2 : List Nat} {inner : Rho → Rr (List PV)} {body : Rho → Rr (Option SV)} {p : PV} {ps : List PV} {r : List SV} {ρe : Rho} (h : lcL2 tg own own2 inner tg2 body (p :: ps) ρ = .ok r ρe) :
    ∃ ρ1 ys ρ2 r1 ρ3 r2, bindTg tg p ρ = some ρ1 ∧ inner ρ1 = .ok ys ρ2 ∧ lcL tg2 own2 body ys (wipeR ρ2 own2) = .ok r1 ρ3 ∧ lcL2 tg own own2 inner tg2 body ps (wipeR ρ3 own) = .ok r2 ρe ∧ r = r1 ++ r2 := by
  unfold lcL2 at h
  cases h1 : bindTg tg p ρ with
  | none => rw [h1] at h; cases h
  | some ρ1 =>
    rw [h1] at h
    replace h : (match inner ρ1 with
      | .ok ys ρ2 => match lcL tg2 own2 body ys (wipeR ρ2 own2) with
        | .ok r1 ρ3 => match lcL2 tg own own2 inner tg2 body ps (wipeR ρ3 own) with
          | .ok r2 ρ4 => Rr.ok (r1 ++ r2) ρ4
          | _ => .bad
        | _ => .bad
      | _ => .bad) = .ok r ρe := h
    cases h2 : inner ρ1 with
    | bad => rw [h2] at h; cases h
    | exc _ _ => rw [h2] at h; cases h
    | ok ys ρ2 =>
      rw [h2] at h
      replace h : (match lcL tg2 own2 body ys (wipeR ρ2 own2) with
        | .ok r1 ρ3 => match lcL2 tg own own2 inner tg2 body ps (wipeR ρ3 own) with
          | .ok r2 ρ4 => Rr.ok (r1 ++ r2) ρ4
          | _ => .bad
        | _ => .bad) = .ok r ρe := h
      cases h3 : lcL tg2 own2 body ys (wipeR ρ2 own2) with
      | bad => rw [h3] at h; cases h
      | exc _ _ => rw [h3] at h; cases h
      | ok r1 ρ3 =>
        rw [h3] at h
        replace h : (match lcL2 tg own own2 inner tg2 body ps (wipeR ρ3 own) with
          | .ok r2 ρ4 => Rr.ok (r1 ++ r2) ρ4
          | _ => .bad) = .ok r ρe := h
        cases h4 : lcL2 tg own own2 inner tg2 body ps (wipeR ρ3 own) with
        | bad => rw [h4] at h; cases h
        | exc _ _ => rw [h4] at h; cases h
        | ok r2 ρ4 =>
          rw [h4] at h
          cases h
          exact ⟨ρ1, ys, ρ2, r1, ρ3, r2, rfl, h2, h3, h4, rfl⟩
def innerW (ri : Rho → Rr (List PV × List Nat)) (ρ : Rho) : Rr (List PV) := (ri ρ).bnd fun p ρ => if p.2.isEmpty then .ok p.1 ρ else .bad
def lc2V (ri : Rho → Rr (List PV × List Nat)) (tg : Tgt) (ri2 : Rho → Rr (List PV × List Nat)) (tg2 : Tgt) (own own2 : List Nat) (body : Rho → Rr (Option SV)) (ρ : Rho) : Rr SV := (ri ρ).bnd fun xs ρ =>
      if notOwn ρ own && apart own xs.2 then
        match lcL2 tg own own2 (innerW ri2) tg2 body xs.1 (wipeR ρ (xs.2 ++ own)) with
        | .ok vs ρ' => if vs.length ≤ big then Rr.of (packL false vs) (backR ρ ρ' (xs.2 ++ own)) else .bad
        | _ => .bad
      else .bad
theorem lc2_run (hK : X.K = Θ.K) {tg tg2 : Tgt} {own own2 : List Nat} {rt : Rho → Rr Bool} {re : Rho → Rr Opd} {ri ri2 : Rho → Rr (List PV × List Nat)} {Q : VK} (hr : ∀ ρ o ρ', re ρ = .ok o ρ' → ∃ s, o = .imm s) (htg : ∀ i ∈ tgSlots tg, i ∈ own) (htg2 : ∀ i ∈ tgSlots tg2, i ∈ own2) (hoo : ∀ i ∈ own2, i ∈ own)
    (h : tG Θ (vR (lc2V ri tg ri2 tg2 own own2 (bodyR rt re))) P W σ H Q) : tLc2 (tI Θ ri P W) (tgG X.K tg) tYes (tI Θ ri2 P W0) (tgG X.K tg2) (tB Θ rt P W0) (tG Θ re P W0) own own2 σ H Q := by
  obtain ⟨B, F, A, ρ, S, q⟩ := h
  have q := Go.bnd (Go.bnd q)
  refine ⟨B, F, A, ρ, S, q.mono (fun p ρ1 k J F1 H1 A1 S1 f1 wk D hD => ?_) fun _ _ k => k⟩
  split at k
  · cases hl : lcL2 tg own own2 (innerW ri2) tg2 (bodyR rt re) p.1 (wipeR ρ1 (p.2 ++ own)) with
    | bad => rw [hl] at k; exact k.elim
    | exc _ _ => rw [hl] at k; exact k.elim
    | ok vs ρe =>
      rw [hl] at k
      replace k : Go (if vs.length ≤ big then Rr.of (packL false vs) (backR ρ1 ρe (p.2 ++ own)) else .bad) (fun v ρ => okE Θ P B F H A σ Q (.imm v) ρ) (exE Θ P B F H A σ W) := k
      split at k
      · rename_i hz
        obtain ⟨s, hs, k2⟩ := Go.of k
        clear k
        have Sw : Sta Θ.K P B F1 H1 (wipeA A1 (p.2 ++ own)) (wipeR ρ1 (p.2 ++ own)) (L2.wipe σ own) := S1.wipe (p.2 ++ own) (wipe_length σ own) (fun j hj => by rw [wipe_get, if_neg fun z => hj (List.mem_append_right _ z)]) (fun j hj => .inl hj) fun j v h _ => S1.np j v h
        have bk : p.2 ≠ [] → ∀ F' H' A', Frm F1 H1 (wipeA A1 (p.2 ++ own)) F' H' A' [] → Frm F1 H1 (wipeA A1 p.2) F' H' A' [] := fun _ F' H' A' f => by
          refine ⟨f.ext, fun a o h1 h2 h3 => f.keep a o h1 h2 fun z => ?_, fun a z => ?_, f.tn, f.fre⟩
          · obtain ⟨j, hj, hb⟩ := oa_wipe z
            exact h3 ⟨j, by unfold wipeA; rw [if_neg fun z => hj (List.mem_append_left _ z)]; exact hb⟩
          · rcases f.own a z with z | z
            · obtain ⟨j, hj, hb⟩ := oa_wipe z
              exact .inl ⟨j, by unfold wipeA; rw [if_neg fun z => hj (List.mem_append_left _ z)]; exact hb⟩
            · exact .inr z
        refine ⟨fun i m H => ∃ F A ρ ss r, m = p.1.length - i ∧ i ≤ p.1.length ∧ LcS Θ P B F1 H1 (wipeA A1 (p.2 ++ own)) D ss F H A ρ (L2.wipe σ own) ∧ lcL2 tg own own2 (innerW ri2) tg2 (bodyR rt re) (p.1.drop i) ρ = .ok r ρe ∧ ss ++ r = vs ∧ ρ.length = ρ1.length,
          ⟨p.1.length, F1, _, _, [], vs, by simp, Nat.zero_le _, LcS.new Sw hD, hl, rfl, wipeR_len _ _⟩, ?_⟩
        rintro i m H2 ⟨F2, A2, ρ2, ss, r, rfl, hi, L, hr2, hv, hlen⟩
        obtain ⟨T0, acc0, S2, f2, t2, hD2, r2⟩ := id L
        have wk2 := wk P B F2 H2 A2 ρ2 _ S2 f2.ext (fun z => bk z _ _ _ f2.drop) i
        by_cases hlt : i < p.1.length
        · obtain ⟨pv, hp, hd⟩ := drop_of hlt
          rw [hd] at hr2
          obtain ⟨ρ3, ys, ρ4, ra, ρ5, rb, b1, b2, b3, b4, rfl⟩ := lcL2_cons hr2
          obtain ⟨go, yl⟩ := wk2.1 pv hp
          refine .inr ⟨go, fun H' => ∃ F A ρ, LcS Θ P B F1 H1 (wipeA A1 (p.2 ++ own)) D (ss ++ ra) F H' A ρ (L2.wipe σ own) ∧ lcL2 tg own own2 (innerW ri2) tg2 (bodyR rt re) (p.1.drop (i + 1)) ρ = .ok rb ρe ∧ ρ.length = ρ1.length, fun H' ⟨F', A', ρ', L', e', z'⟩ => ?_, fun y H3 hy => ?_⟩
          · exact ⟨p.1.length - (i + 1), by omega, F', A', ρ', _, rb, rfl, hlt, L', e', by rw [← hv]; simp, z'⟩
          · obtain ⟨F3, S3, f3, ry⟩ := yl y H3 hy
            obtain ⟨σ4, A4, S4, f4, hl4, hs4, hq4⟩ := tg_ok hK b1 S3 ry
            refine hq4 _ ?_
            have hs5 : ∀ j, j ∉ own → σ4[j]? = (L2.wipe σ own)[j]? := fun j hj => hs4 j fun z => hj (htg j z)
            refine ⟨(wipe_same hl4 hs5).trans wipe_wipe, ?_⟩
            have L4 := (L.on S3 f3).on S4 f4
            show tI Θ ri2 P W0 σ4 H3 _
            -- the inner walk
            have b2' : innerW ri2 ρ3 = .ok ys ρ4 := b2
            unfold innerW at b2'
            refine ⟨B, F3, A4, ρ3, S4, ?_⟩
            cases hri : ri2 ρ3 with
            | bad => rw [hri] at b2'; cases b2'
            | exc _ _ => rw [hri] at b2'; cases b2'
            | ok q2 ρ4' =>
              rw [hri] at b2'
              replace b2' : (if q2.2.isEmpty = true then Rr.ok q2.1 ρ4' else .bad) = .ok ys ρ4 := b2'
              split at b2'
              · rename_i hemp
                cases b2'
                have he : q2.2 = [] := List.isEmpty_iff.mp hemp
                intro J1 F5 H5 A5 S5 f5 wk5
                have L5 := L4.on S5 f5
                have L6 := L5.turn (vs := own2) (σ := σ4) rfl (fun _ _ => rfl)
                refine ⟨fun j k H => ∃ F A ρ ss1 r1, k = q2.1.length - j ∧ j ≤ q2.1.length ∧ LcS Θ P B F1 H1 (wipeA A1 (p.2 ++ own)) D ss1 F H A ρ (L2.wipe σ4 own2) ∧ lcL tg2 own2 (bodyR rt re) (q2.1.drop j) ρ = .ok r1 ρ5 ∧ ss1 ++ r1 = ss ++ ra ∧ Evl.Ex F5 F,
                  ⟨q2.1.length, F5, _, _, ss, ra, by simp, Nat.zero_le _, L6, b3, rfl, Evl.Ex.refl _⟩, ?_⟩
                rintro j k H6 ⟨F6, A6, ρ6, ss1, r1, rfl, hj, L7, hr7, hv7, ex7⟩
                obtain ⟨T7, acc7, S7, f7, t7, hD7, r7⟩ := id L7
                have wk7 := wk5 P B F6 H6 A6 ρ6 _ S7 ex7 (fun z => absurd he z) j
                by_cases hlt7 : j < q2.1.length
                · obtain ⟨pw, hpw, hdw⟩ := drop_of hlt7
                  rw [hdw] at hr7
                  obtain ⟨ρ8, oo, ρ9, r9, c1, c2, c3, rfl⟩ := lcL_cons hr7
                  obtain ⟨go7, yl7⟩ := wk7.1 pw hpw
                  refine .inr ⟨go7, fun H' => ∃ F A ρ, LcS Θ P B F1 H1 (wipeA A1 (p.2 ++ own)) D (ss1 ++ oo.toList) F H' A ρ (L2.wipe σ4 own2) ∧ lcL tg2 own2 (bodyR rt re) (q2.1.drop (j + 1)) ρ = .ok r9 ρ5 ∧ Evl.Ex F5 F, fun H' ⟨F', A', ρ', L', e', z'⟩ => ?_, fun y7 H7 hy7 => ?_⟩
                  · exact ⟨q2.1.length - (j + 1), by omega, F', A', ρ', _, r9, rfl, hlt7, L', e', by rw [← hv7]; simp, z'⟩
                  · obtain ⟨F8, S8, f8, ry8⟩ := yl7 y7 H7 hy7
                    obtain ⟨σ9, A9, S9, f9, hl9, hs9, hq9⟩ := tg_ok hK c1 S8 ry8
                    refine hq9 _ ?_
                    have hs10 : ∀ j, j ∉ own2 → σ9[j]? = (L2.wipe σ4 own2)[j]? := fun j hj => hs9 j fun z => hj (htg2 j z)
                    refine ⟨(wipe_same hl9 hs10).trans wipe_wipe, ?_⟩
                    have L9 := (L7.on S8 f8).on S9 f9
                    have hb := body_ok (W0 := W0) (Nx := fun H' => ∃ F A ρ, LcS Θ P B F1 H1 (wipeA A1 (p.2 ++ own)) D (ss1 ++ oo.toList) F H' A ρ (L2.wipe σ4 own2) ∧ lcL tg2 own2 (bodyR rt re) (q2.1.drop (j + 1)) ρ = .ok r9 ρ5 ∧ Evl.Ex F5 F) hr L9 c2 ?_ fun F10 H10 A10 L10 ex10 => ?_
                    · exact hb
                    · have e1 : (ss1 ++ (oo.toList ++ r9)).length = (ss ++ ra).length := by rw [hv7]
                      have e2 : (ss ++ (ra ++ rb)).length = vs.length := by rw [hv]
                      simp only [List.length_append] at e1 e2
                      omega
                    · have L11 := L10.turn hl9 hs10
                      rw [wipe_wipe] at L11
                      exact ⟨F10, _, _, L11, c3, ex7.trans (f8.ext.trans (f9.ext.trans ex10))⟩
                · have e : j = q2.1.length := by omega
                  subst e
                  refine .inl ⟨wk7.2 rfl, ?_⟩
                  rw [List.drop_length] at hr7
                  cases hr7
                  rw [List.append_nil] at hv7
                  subst hv7
                  have L12 : LcS Θ P B F1 H1 (wipeA A1 (p.2 ++ own)) D (ss ++ ra) F6 H6 (wipeA A6 own) (wipeR ρ5 own) (L2.wipe σ own) := by
                    have L13 := L7.turn (vs := own) (σ := L2.wipe σ own) (by rw [wipe_length, wipe_length, hl4, wipe_length]) (fun j hj => by
                      rw [wipe_get, if_neg fun z => hj (hoo j z)]; exact hs5 j hj)
                    rw [wipe_wipe] at L13; exact L13
                  obtain ⟨_, _, S6', _⟩ := id L12
                  obtain ⟨_, _, S0, _⟩ := id L
                  exact ⟨F6, _, _, L12, b4, by rw [S6'.len, ← S0.len, hlen]⟩
              · cases b2'
        · have e : i = p.1.length := by omega
          subst e
          refine .inl ⟨wk2.2 rfl, ?_⟩
          rw [List.drop_length] at hr2
          cases hr2
          rw [List.append_nil] at hv
          subst hv
          have Sb := S1.back (τ := σ) S2 f2 (by rw [hlen]) (fun _ _ => rfl) (fun j hj => by rw [wipe_get, if_neg fun z => hj (List.mem_append_right _ z)]) rfl (fun _ _ h => h) (fun _ _ h => h)
          exact LcS.pack Sb (f1.trans f2.back) (TOk.back S1 f2 t2) hD2 r2 hs k2
      · exact k.elim
  · exact k.elim
end
end KL
end
section
set_option Elab.async false
set_option linter.all false
set_option maxRecDepth 100000
/-! KA15: dict comprehensions. -/
namespace KL
open PySem PySem.Spec PyProof.Rows L2
section
variable {Θ : Pm} {g : Gm} {P : List Nat} {W W0 : WX} {X : Cx} {x : Expr} {B F F' F1 H H' H1 : Hp} {A A' A1 : Ad} {T : List Addr} {ρ ρ' ρ1 ρ2 : Rho} {σ σ' σ2 : L2.St} {a : Addr} {i : Nat} {o : Opd} {v : V} {pos : Pos} {D : Addr}
theorem RepD.len : ∀ {kvs : List (PV × PV)} {ks : List (Key × V)}, RepD Θ.K F kvs ks → ks.length = kvs.length
  | [], ks, h => by simp only [RepD] at h; subst h; rfl
  | (k, p) :: r, ks, h => by
    simp only [RepD] at h
    obtain ⟨k', v, r', rfl, _, _, h⟩ := h
    simp [RepD.len h]
theorem RepD.any {k : PV} {k' : Key} (hk : keyOf k = some k') : ∀ {kvs : List (PV × PV)} {ks : List (Key × V)}, RepD Θ.K F kvs ks → (kvs.any fun q => decide (q.1 = k)) = ks.any fun q => decide (q.1 = k')
  | [], ks, h => by simp only [RepD] at h; subst h; rfl
  | (a, w) :: r, ks, h => by
    simp only [RepD] at h
    obtain ⟨a', v, r', rfl, h1, h2, h3⟩ := h
    have e : (a = k) ↔ (a' = k') := ⟨fun e => by subst e; rw [h1] at hk; exact Option.some.inj hk, fun e => by subst e; exact keyOf_inj h1 hk⟩
    simp only [List.any_cons, dec_iff e, RepD.any hk h3]
theorem RepD.map {k p : PV} {k' : Key} {z : V} (hk : keyOf k = some k') (hz : Rep Θ.K F p z) : ∀ {kvs : List (PV × PV)} {ks : List (Key × V)}, RepD Θ.K F kvs ks →
    RepD Θ.K F (kvs.map fun q => if q.1 = k then (q.1, p) else q) (ks.map fun q => if q.1 = k' then (q.1, z) else q)
  | [], ks, h => by simp only [RepD] at h; subst h; simp [RepD]
  | (a, w) :: r, ks, h => by
    simp only [RepD] at h
    obtain ⟨a', v, r', rfl, h1, h2, h3⟩ := h
    have e : (a = k) ↔ (a' = k') := ⟨fun e => by subst e; rw [h1] at hk; exact Option.some.inj hk, fun e => by subst e; exact keyOf_inj h1 hk⟩
    simp only [List.map_cons]
    by_cases q : a = k
    · rw [if_pos q, if_pos (e.mp q)]
      simp only [RepD]
      exact ⟨a', z, _, rfl, h1, hz, RepD.map hk hz h3⟩
    · rw [if_neg q, if_neg fun z => q (e.mpr z)]
      simp only [RepD]
      exact ⟨a', v, _, rfl, h1, h2, RepD.map hk hz h3⟩
theorem RepD.app {k p : PV} {k' : Key} {z : V} (hk : keyOf k = some k') (hz : Rep Θ.K F p z) : ∀ {kvs : List (PV × PV)} {ks : List (Key × V)}, RepD Θ.K F kvs ks → RepD Θ.K F (kvs ++ [(k, p)]) (ks ++ [(k', z)])
  | [], ks, h => by
    simp only [RepD] at h; subst h
    show RepD Θ.K F [(k, p)] [(k', z)]
    simp only [RepD]
    exact ⟨k', z, [], rfl, hk, hz, rfl⟩
  | (a, w) :: r, ks, h => by
    simp only [RepD] at h
    obtain ⟨a', v, r', rfl, h1, h2, h3⟩ := h
    show RepD Θ.K F ((a, w) :: (r ++ [(k, p)])) ((a', v) :: (r' ++ [(k', z)]))
    simp only [RepD]
    exact ⟨a', v, _, rfl, h1, h2, RepD.app hk hz h3⟩
theorem RepD.put {k p : PV} {k' : Key} {z : V} (hk : keyOf k = some k') (hz : Rep Θ.K F p z) {kvs : List (PV × PV)} {ks : List (Key × V)} (h : RepD Θ.K F kvs ks) : RepD Θ.K F (putPV k p kvs) (putK ks k' z) := by
  unfold putPV putK
  rw [RepD.any hk h]
  cases ks.any fun q => decide (q.1 = k') with
  | true => rw [if_pos rfl, if_pos rfl]; exact RepD.map hk hz h
  | false => rw [if_neg Bool.false_ne_true, if_neg Bool.false_ne_true]; exact RepD.app hk hz h
theorem putPV_len {k v : PV} {kvs : List (PV × PV)} : (putPV k v kvs).length ≤ kvs.length + 1 := by
  unfold putPV
  split
  · simp
  · simp
/-- the new dict at D holds what kvs tells -/
def DcS (Θ : Pm) (P : List Nat) (B F1 H1 : Hp) (A1 : Ad) (D : Addr) (kvs : List (PV × PV)) (F H : Hp) (A : Ad) (ρ : Rho) (σ : L2.St) : Prop := ∃ ks, Sta Θ.K P B F H A ρ σ ∧ Frm F1 H1 A1 F H A [D] ∧ TOk A F H [D] ∧ H D = some (.dK ks) ∧ RepD Θ.K F kvs ks
variable {kvs : List (PV × PV)}
theorem DcS.on (L : DcS Θ P B F1 H1 A1 D kvs F H A ρ σ) (S : Sta Θ.K P B F' H' A' ρ' σ') (f : Frm F H A F' H' A' []) : DcS Θ P B F1 H1 A1 D kvs F' H' A' ρ' σ' := by
  obtain ⟨ks, S0, f0, t0, hD, r⟩ := L
  have q := f.keep D _ (t0.no D (by simp)) hD (t0.ap D (by simp))
  exact ⟨ks, S, by have := f0.trans f; rwa [List.append_nil] at this, t0.on f, q.2, r.mono f.ext⟩
theorem DcS.put {k p : PV} {k' : Key} {z : V} (L : DcS Θ P B F1 H1 A1 D kvs F H A ρ σ) (hk : keyOf k = some k') (hz : Rep Θ.K F p z) :
    ∃ ks, H D = some (.dK ks) ∧ ks.length = kvs.length ∧ DcS Θ P B F1 H1 A1 D (putPV k p kvs) F (upd H D (.dK (putK ks k' z))) A ρ σ := by
  obtain ⟨ks, S, f1, t1, hD, r0⟩ := L
  have hd1 : H1 D = none := f1.tn D (by simp)
  have nF := t1.no D (by simp)
  refine ⟨ks, hD, r0.len, _, ?_, ⟨f1.ext, fun a o h1 h2 h3 => ?_, f1.own, f1.tn, fun a h => ?_⟩, ⟨t1.nd, t1.ap, t1.no, fun a h => ?_⟩, upd_same, r0.put hk hz⟩
  · refine S.on (fun b u z => ?_) (Evl.Ex.refl _) (fun _ _ z => z) (fun b hb u z => ?_) (upd_there S.mono)
    · rw [upd_ne]; exact S.ext b u z
      rintro rfl; rw [nF] at z; cases z
    · rw [upd_ne]; exact z
      rintro rfl; exact t1.ap b (by simp) hb
  · obtain ⟨k1, k2⟩ := f1.keep a o h1 h2 h3
    refine ⟨k1, ?_⟩
    rw [upd_ne]; exact k2
    rintro rfl; rw [hd1] at h2; cases h2
  · by_cases e : a = D
    · subst e; rw [upd_same]; exact fun z => nomatch z
    · rw [upd_ne e]; exact f1.fre a h
  · by_cases e : a = D
    · subst e; rw [upd_same]; exact fun z => nomatch z
    · rw [upd_ne e]; exact t1.th a h
theorem DcS.new (S : Sta Θ.K P B F H A ρ σ) (hD : H D = none) : DcS Θ P B F H A D [] F (upd H D (.dK [])) A ρ σ :=
  ⟨[], S.newH hD, Frm.newH hD, TOk.newH S hD, upd_same, by simp [RepD]⟩
theorem DcS.turn {vs : List Nat} (L : DcS Θ P B F1 H1 A1 D kvs F H A ρ σ2) (hl : σ2.length = σ.length) (hs : ∀ j, j ∉ vs → σ2[j]? = σ[j]?) : DcS Θ P B F1 H1 A1 D kvs F H (wipeA A vs) (wipeR ρ vs) (L2.wipe σ vs) := by
  obtain ⟨ks, S, f0, t0, hD, r0⟩ := id L
  exact L.on (S.wipe vs (by rw [wipe_length, hl]) (fun j hj => by rw [wipe_get, if_neg hj, hs j hj]) (fun j hj => .inl hj) fun j v h _ => S.np j v h) (Frm.wipe F H A vs)
def dbodyR (rk re : Rho → Rr Opd) (ρ : Rho) : Rr (PV × PV) := (rk ρ).bnd fun a ρ => (re ρ).bnd fun b ρ => .ok (a.sv.val, b.sv.val) ρ
def dcV (ri : Rho → Rr (List PV × List Nat)) (tg : Tgt) (own : List Nat) (body : Rho → Rr (PV × PV)) (ρ : Rho) : Rr SV := (ri ρ).bnd fun xs ρ =>
      if notOwn ρ own && apart own xs.2 && decide (xs.1.length ≤ big) then
        match dcL tg own body xs.1 [] (wipeR ρ (xs.2 ++ own)) with
        | .ok kvs ρ' => .ok (.own (.dct kvs)) (backR ρ ρ' (xs.2 ++ own))
        | _ => .bad
      else .bad
theorem dcL_cons {tg : Tgt} {own : List Nat} {body : Rho → Rr (PV × PV)} {p : PV} {ps : List PV} {acc r : List (PV × PV)} {ρe : Rho} (h : dcL tg own body (p :: ps) acc ρ = .ok r ρe) :
    ∃ ρ1 k v ρ2, bindTg tg p ρ = some ρ1 ∧ body ρ1 = .ok (k, v) ρ2 ∧ keyPV k = true ∧ dcL tg own body ps (putPV k v acc) (wipeR ρ2 own) = .ok r ρe := by
  unfold dcL at h
  cases h1 : bindTg tg p ρ with
  | none => rw [h1] at h; cases h
  | some ρ1 =>
    rw [h1] at h
    replace h : (match body ρ1 with
      | .ok (k, v) ρ2 => if keyPV k then dcL tg own body ps (putPV k v acc) (wipeR ρ2 own) else .bad
      | _ => .bad) = .ok r ρe := h
    cases h2 : body ρ1 with
    | bad => rw [h2] at h; cases h
    | exc _ _ => rw [h2] at h; cases h
    | ok kv ρ2 =>
      obtain ⟨k, v⟩ := kv
      rw [h2] at h
      replace h : (if keyPV k then dcL tg own body ps (putPV k v acc) (wipeR ρ2 own) else .bad) = .ok r ρe := h
      split at h
      · rename_i hk; exact ⟨ρ1, k, v, ρ2, rfl, h2, hk, h⟩
      · cases h
theorem rep_of_imm {s : SV} (r : ResO Θ F σ (.imm s) v) : Rep Θ.K F s.val v := r
theorem dc_run (hK : X.K = Θ.K) {tg : Tgt} {own : List Nat} {rk re : Rho → Rr Opd} {ri : Rho → Rr (List PV × List Nat)} {Q : VK} (hrk : ∀ ρ o ρ', rk ρ = .ok o ρ' → ∃ s, o = .imm s) (hre : ∀ ρ o ρ', re ρ = .ok o ρ' → ∃ s, o = .imm s) (htg : ∀ i ∈ tgSlots tg, i ∈ own)
    (h : tG Θ (vR (dcV ri tg own (dbodyR rk re))) P W σ H Q) : tDc (tI Θ ri P W) (tgG X.K tg) tYes (tO Θ rk P W0) (tO Θ re P W0) own σ H Q := by
  obtain ⟨B, F, A, ρ, S, q⟩ := h
  have q := Go.bnd (Go.bnd q)
  refine ⟨B, F, A, ρ, S, q.mono (fun p ρ1 k J F1 H1 A1 S1 f1 wk D hD => ?_) fun _ _ k => k⟩
  split at k
  · rename_i hc
    simp only [Bool.and_eq_true, decide_eq_true_eq] at hc
    obtain ⟨_, hz⟩ := hc
    cases hl : dcL tg own (dbodyR rk re) p.1 [] (wipeR ρ1 (p.2 ++ own)) with
    | bad => rw [hl] at k; exact k.elim
    | exc _ _ => rw [hl] at k; exact k.elim
    | ok vs ρe =>
      rw [hl] at k
      have k2 : okE Θ P B F H A σ Q (.imm (.own (.dct vs))) (backR ρ1 ρe (p.2 ++ own)) := k
      clear k
      have Sw : Sta Θ.K P B F1 H1 (wipeA A1 (p.2 ++ own)) (wipeR ρ1 (p.2 ++ own)) (L2.wipe σ own) := S1.wipe (p.2 ++ own) (wipe_length σ own) (fun j hj => by rw [wipe_get, if_neg fun z => hj (List.mem_append_right _ z)]) (fun j hj => .inl hj) fun j v h _ => S1.np j v h
      have bk : p.2 ≠ [] → ∀ F' H' A', Frm F1 H1 (wipeA A1 (p.2 ++ own)) F' H' A' [] → Frm F1 H1 (wipeA A1 p.2) F' H' A' [] := fun _ F' H' A' f => by
        refine ⟨f.ext, fun a o h1 h2 h3 => f.keep a o h1 h2 fun z => ?_, fun a z => ?_, f.tn, f.fre⟩
        · obtain ⟨j, hj, hb⟩ := oa_wipe z
          exact h3 ⟨j, by unfold wipeA; rw [if_neg fun z => hj (List.mem_append_left _ z)]; exact hb⟩
        · rcases f.own a z with z | z
          · obtain ⟨j, hj, hb⟩ := oa_wipe z
            exact .inl ⟨j, by unfold wipeA; rw [if_neg fun z => hj (List.mem_append_left _ z)]; exact hb⟩
          · exact .inr z
      refine ⟨fun i m H => ∃ F A ρ acc, m = p.1.length - i ∧ i ≤ p.1.length ∧ acc.length ≤ i ∧ DcS Θ P B F1 H1 (wipeA A1 (p.2 ++ own)) D acc F H A ρ (L2.wipe σ own) ∧ dcL tg own (dbodyR rk re) (p.1.drop i) acc ρ = .ok vs ρe ∧ ρ.length = ρ1.length,
        ⟨p.1.length, F1, _, _, [], by simp, Nat.zero_le _, Nat.le_refl _, DcS.new Sw hD, hl, wipeR_len _ _⟩, ?_⟩
      rintro i m H2 ⟨F2, A2, ρ2, acc, rfl, hi, hss, L, hr2, hlen⟩
      obtain ⟨ks0, S2, f2, t2, hD2, r2⟩ := id L
      have wk2 := wk P B F2 H2 A2 ρ2 _ S2 f2.ext (fun z => bk z _ _ _ f2.drop) i
      by_cases hlt : i < p.1.length
      · obtain ⟨pv, hp, hd⟩ := drop_of hlt
        rw [hd] at hr2
        obtain ⟨ρ3, kk, vv, ρ4, b1, b2, b4, b3⟩ := dcL_cons hr2
        obtain ⟨go, yl⟩ := wk2.1 pv hp
        refine .inr ⟨go, fun H' => ∃ F A ρ, DcS Θ P B F1 H1 (wipeA A1 (p.2 ++ own)) D (putPV kk vv acc) F H' A ρ (L2.wipe σ own) ∧ dcL tg own (dbodyR rk re) (p.1.drop (i + 1)) (putPV kk vv acc) ρ = .ok vs ρe ∧ ρ.length = ρ1.length, fun H' ⟨F', A', ρ', L', e', z'⟩ => ?_, fun y H3 hy => ?_⟩
        · exact ⟨p.1.length - (i + 1), by omega, F', A', ρ', _, rfl, hlt, Nat.le_trans putPV_len (Nat.succ_le_succ hss), L', e', z'⟩
        · obtain ⟨F3, S3, f3, ry⟩ := yl y H3 hy
          obtain ⟨σ4, A4, S4, f4, hl4, hs4, hq4⟩ := tg_ok hK b1 S3 ry
          refine hq4 _ ?_
          have hs5 : ∀ j, j ∉ own → σ4[j]? = (L2.wipe σ own)[j]? := fun j hj => hs4 j fun z => hj (htg j z)
          refine ⟨(wipe_same hl4 hs5).trans wipe_wipe, ?_⟩
          have L4 := (L.on S3 f3).on S4 f4
          show tO Θ rk P W0 σ4 H3 _
          have b2' : ((rk ρ3).bnd fun a ρ => (re ρ).bnd fun b ρ => Rr.ok (a.sv.val, b.sv.val) ρ) = .ok (kk, vv) ρ4 := b2
          refine ⟨B, F3, A4, ρ3, S4, ?_⟩
          cases hk : rk ρ3 with
          | bad => rw [hk] at b2'; cases b2'
          | exc _ _ => rw [hk] at b2'; cases b2'
          | ok ok ρ5 =>
            rw [hk] at b2'
            replace b2' : ((re ρ5).bnd fun b ρ => Rr.ok (ok.sv.val, b.sv.val) ρ) = .ok (kk, vv) ρ4 := b2'
            intro yk F5 H5 A5 S5 f5 rk5
            refine ⟨B, F5, A5, ρ5, S5, ?_⟩
            cases he : re ρ5 with
            | bad => rw [he] at b2'; cases b2'
            | exc _ _ => rw [he] at b2'; cases b2'
            | ok oe ρ6 =>
              rw [he] at b2'
              cases b2'
              obtain ⟨sk, rfl⟩ := hrk _ _ _ hk
              obtain ⟨se, rfl⟩ := hre _ _ _ he
              intro ye F6 H6 A6 S6 f6 re6
              obtain ⟨k', hk'⟩ := keyPV_of b4
              have L6 := (L4.on S5 f5).on S6 f6
              obtain ⟨ks, q1, q2, q3⟩ := L6.put hk' (rep_of_imm re6)
              have hky : yk = kV k' := keyOf_kV hk' (Tp.of S5.ext (rep_of_imm rk5))
              refine ⟨ks, k', hky, q1, by rw [q2]; exact Nat.lt_of_le_of_lt hss (Nat.lt_of_lt_of_le hlt hz), ?_⟩
              have L7 := q3.turn hl4 hs5
              rw [wipe_wipe] at L7
              obtain ⟨_, S7, _⟩ := id L7
              exact ⟨F6, _, _, L7, b3, by rw [S7.len, ← S2.len, hlen]⟩
      · have e : i = p.1.length := by omega
        subst e
        refine .inl ⟨wk2.2 rfl, ?_⟩
        rw [List.drop_length] at hr2
        cases hr2
        have Sb := S1.back (τ := σ) S2 f2 (by rw [hlen]) (fun _ _ => rfl) (fun j hj => by rw [wipe_get, if_neg fun z => hj (List.mem_append_right _ z)]) rfl (fun _ _ h => h) (fun _ _ h => h)
        exact k2 (.ref D) F2 H2 _ [D] Sb (f1.trans f2.back) (TOk.back S1 f2 t2) ⟨D, rfl, rfl, ks0, hD2, r2⟩
  · exact k.elim
end
end KL
end
section
set_option Elab.async false
set_option linter.all false
set_option maxRecDepth 100000
/-! KA16: statements. -/
namespace KL
open PySem PySem.Spec PyProof.Rows L2
def Keep (pr : List Nat) (σ0 σ : L2.St) : Prop := σ.length = σ0.length ∧ ∀ j ∈ pr, σ[j]? = σ0[j]?
/-- where a def or a loop began -/
structure Ent where
  B : Hp
  F : Hp
  H : Hp
  A : Ad
  ρ : Rho
  σ : L2.St
section
variable (Θ : Pm) (P pr : List Nat) (N : Ent)
def At (F H : Hp) (A : Ad) (ρ : Rho) (σ : L2.St) : Prop := Sta Θ.K P N.B F H A ρ σ ∧ Frm N.F N.H N.A F H A [] ∧ Keep pr N.σ σ
def nxS (Q : L2.St → Hp → Prop) (ρ' : Rho) : Prop := ∀ F' H' A' σ', At Θ P pr N F' H' A' ρ' σ' → Q σ' H'
def TN (T : List Addr) : Prop := ∀ a ∈ T, (Oa N.A a ∨ N.H a = none) ∧ N.B a = none
def rtS (Q : VK) (v : SV) (ρ' : Rho) : Prop := ∀ x F' H' A' T σ', Sta Θ.K P N.B F' H' A' ρ' σ' → Frm N.F N.H N.A F' H' A' [] → TN N T → Keep pr N.σ σ' → TOk A' F' H' T → Res Θ.K F' H' [] (.imm v) x T → Q x H'
def exS (W : WX) (p : PV) (ρ' : Rho) : Prop := ∀ c d F' H' A' σ', At Θ P pr N F' H' A' ρ' σ' → Exr Θ F' H' p c d → W c d σ' H'
def Gs (W : WX) (D : Ends) : Outc → Prop
  | .nx ρ => nxS Θ P pr N D.nx ρ
  | .bk ρ => nxS Θ P pr N D.bk ρ
  | .ct ρ => nxS Θ P pr N D.ct ρ
  | .rt v ρ => rtS Θ P pr N D.rt v ρ
  | .ex p ρ => exS Θ P pr N W p ρ
  | .bad => False
end
def tSt (Θ : Pm) (top : Bool) (r : Rho → Rho → Outc) (P pr : List Nat) (W : WX) : TS := fun D σ H => ∃ N F A ρ ρ0, Sta Θ.K P N.B N.F N.H N.A N.ρ N.σ ∧ (top = true → N.B = N.H ∧ N.ρ = ρ0) ∧ At Θ P pr N F H A ρ σ ∧ Gs Θ P pr N W D (r ρ0 ρ)
section
variable {Θ : Pm} {g : Gm} {P pr : List Nat} {W W0 : WX} {X : Cx} {x : Expr} {B F F' F1 H H' H1 : Hp} {A A' A1 : Ad} {T : List Addr} {ρ ρ' ρ1 ρ2 : Rho} {σ σ' σ2 : L2.St} {a : Addr} {i : Nat} {o : Opd} {v : V} {pos : Pos} {D : Ends} {N : Ent} {top : Bool} {st : Stmt} {sts : List Stmt}
theorem PS.weak {t t' : TS} (h : PS X st t) (w : ∀ D σ H, t' D σ H → t D σ H) : PS X st t' := ⟨fun pins s σ H D I q => h.run pins s σ H D I (w _ _ _ q)⟩
theorem PSs.weak {t t' : TS} (h : PSs X sts t) (w : ∀ D σ H, t' D σ H → t D σ H) : PSs X sts t' := ⟨fun pins s σ H D I q => h.run pins s σ H D I (w _ _ _ q)⟩
theorem At.on (a : At Θ P pr N F H A ρ σ) (S : Sta Θ.K P N.B F' H' A' ρ' σ) (f : Frm F H A F' H' A' []) : At Θ P pr N F' H' A' ρ' σ := ⟨S, a.2.1.trans f, a.2.2⟩
/-- an expression within a statement -/
theorem out_G {r : Rho → Rr Opd} {f : Opd → Rho → Outc} {Q : VK} (a : At Θ P pr N F H A ρ σ) (h : Gs Θ P pr N W D ((r ρ).out f)) (k : ∀ o ρ', r ρ = .ok o ρ' → Gs Θ P pr N W D (f o ρ') → okE Θ P N.B F H A σ Q o ρ') : tG Θ r P W σ H Q := by
  refine ⟨N.B, F, A, ρ, a.1, ?_⟩
  cases hr : r ρ with
  | bad => rw [hr] at h; exact h.elim
  | exc p ρ' =>
    rw [hr] at h
    intro c d F' H' A' S' f' e'
    exact (show exS Θ P pr N W p ρ' from h) c d F' H' A' σ (a.on S' f') e'
  | ok o ρ' =>
    rw [hr] at h
    exact k o ρ' hr h
theorem out_T {r : Rho → Rr Opd} {f : Opd → Rho → Outc} {Q : Bool → Hp → Prop} (a : At Θ P pr N F H A ρ σ) (h : Gs Θ P pr N W D ((r ρ).out f)) (k : ∀ o ρ', r ρ = .ok o ρ' → Gs Θ P pr N W D (f o ρ') → okT Θ P N.B F H A σ Q o ρ') : tT Θ r P W σ H Q := by
  refine ⟨N.B, F, A, ρ, a.1, ?_⟩
  cases hr : r ρ with
  | bad => rw [hr] at h; exact h.elim
  | exc p ρ' =>
    rw [hr] at h
    intro c d F' H' A' S' f' e'
    exact (show exS Θ P pr N W p ρ' from h) c d F' H' A' σ (a.on S' f') e'
  | ok o ρ' =>
    rw [hr] at h
    exact k o ρ' hr h
/-! ### small statements -/
theorem ss_nil : PSs X [] (tSt Θ top (fun _ ρ => .nx ρ) P pr W) := PSs.weak pss_nil fun D σ H ⟨N, F, A, ρ, ρ0, _, _, a, q⟩ => q F H A σ a
theorem ss_cons {r rr : Rho → Rho → Outc} (h1 : PS X st (tSt Θ top r P pr W)) (h2 : PSs X sts (tSt Θ top rr P pr W)) : PSs X (st :: sts) (tSt Θ top (fun ρ0 ρ => (r ρ0 ρ).seq fun ρ => rr ρ0 ρ) P pr W) := by
  refine PSs.weak (pss_cons h1 h2) fun D σ H ⟨N, F, A, ρ, ρ0, S0, ht, a, q⟩ => ?_
  refine ⟨N, F, A, ρ, ρ0, S0, ht, a, ?_⟩
  replace q : Gs Θ P pr N W D ((r ρ0 ρ).seq fun ρ => rr ρ0 ρ) := q
  cases hr : r ρ0 ρ with
  | nx ρ' =>
    rw [hr] at q
    exact fun F' H' A' σ' a' => ⟨N, F', A', ρ', ρ0, S0, ht, a', q⟩
  | rt v ρ' => rw [hr] at q; exact q
  | bk ρ' => rw [hr] at q; exact q
  | ct ρ' => rw [hr] at q; exact q
  | ex p ρ' => rw [hr] at q; exact q
  | bad => rw [hr] at q; exact q
theorem st_pass : PS X (.Pass pos) (tSt Θ top (fun _ ρ => .nx ρ) P pr W) := PS.weak ps_pass fun D σ H ⟨N, F, A, ρ, ρ0, _, _, a, q⟩ => q F H A σ a
theorem st_brk : PS X (.Break pos) (tSt Θ top (fun _ ρ => .bk ρ) P pr W) := PS.weak ps_break fun D σ H ⟨N, F, A, ρ, ρ0, _, _, a, q⟩ => q F H A σ a
theorem st_cnt : PS X (.Continue pos) (tSt Θ top (fun _ ρ => .ct ρ) P pr W) := PS.weak ps_continue fun D σ H ⟨N, F, A, ρ, ρ0, _, _, a, q⟩ => q F H A σ a
theorem st_exp {r : Rho → Rr Opd} (h : PE X x (tG Θ r P W)) (hs : swapsWith x none pos.line X.env = pure false) : PS X (.Expr x pos) (tSt Θ top (fun _ ρ => (r ρ).out fun _ ρ => .nx ρ) P pr W) := by
  refine PS.weak (ps_expr h hs) fun D σ H ⟨N, F, A, ρ, ρ0, _, _, a, q⟩ => ?_
  exact out_G a q fun o ρ' _ k y F' H' A' T S' f' t' r' => k F' H' A' σ (a.on S' f'.drop)
theorem st_ret {r : Rho → Rr Opd} (hr : ∀ ρ o ρ', r ρ = .ok o ρ' → ∃ s, o = .imm s) (h : PE X x (tG Θ r P W)) : PS X (.Return (some x) pos) (tSt Θ top (fun _ ρ => (r ρ).out fun o ρ => .rt o.sv ρ) P pr W) := by
  refine PS.weak (ps_ret h) fun D σ H ⟨N, F, A, ρ, ρ0, _, _, a, q⟩ => ?_
  refine out_G a q fun o ρ' e k y F' H' A' T S' f' t' r' => ?_
  obtain ⟨s, rfl⟩ := hr _ _ _ e
  exact (show rtS Θ P pr N D.rt s ρ' from k) y F' H' A' T σ S' (a.2.1.trans f'.drop) (fun b hb => ⟨.inr (a.2.1.nn (f'.tn b hb)), by
      cases z : N.B b with
      | none => rfl
      | some u => exact absurd (f'.tn b hb) (a.1.mono b (by rw [z]; exact fun z => nomatch z))⟩) a.2.2 t' (by cases s <;> exact r')
theorem st_retn : PS X (.Return none pos) (tSt Θ top (fun _ ρ => .rt (.shr .non) ρ) P pr W) := by
  refine PS.weak ps_retN fun D σ H ⟨N, F, A, ρ, ρ0, _, _, a, q⟩ => ?_
  exact (show rtS Θ P pr N D.rt (.shr .non) ρ from q) _ F H A [] σ a.1 a.2.1 (fun _ z => nomatch z) a.2.2 TOk.nil ⟨rfl, by simp [Rep]⟩
theorem st_if {r : Rho → Rr Opd} {ra rb : Rho → Rho → Outc} {a b : List Stmt} (h : PT X x (tT Θ r P W)) (ha : PSs X a (tSt Θ top ra P pr W)) (hb : PSs X b (tSt Θ top rb P pr W)) :
    PS X (.If x a b pos) (tSt Θ top (fun ρ0 ρ => (r ρ).out fun c ρ => if c.tru then ra ρ0 ρ else rb ρ0 ρ) P pr W) := by
  refine PS.weak (ps_if h ha hb) fun D σ H ⟨N, F, A, ρ, ρ0, S0, ht, a, q⟩ => ?_
  refine out_T a q fun o ρ' e k F' H' A' S' f' => ?_
  cases hc : o.tru with
  | true => rw [hc] at k; exact ⟨N, F', A', ρ', ρ0, S0, ht, a.on S' f', k⟩
  | false => rw [hc] at k; exact ⟨N, F', A', ρ', ρ0, S0, ht, a.on S' f', k⟩
/-! ### names set -/
theorem set_res {s : SV} {y : V} (S0 : Sta Θ.K P B F H A ρ σ) (S : Sta Θ.K P B F' H' A' ρ' σ) (f : Frm F H A F' H' A' T) (t : TOk A' F' H' T) (r : Res Θ.K F' H' σ' (.imm s) y T) (hi : i ∉ P) :
    ∃ A2, Sta Θ.K P B F' H' A2 (ρ'.set i s) (σ.set i (some y)) ∧ Frm F H A F' H' A2 [] := by
  by_cases h : i < ρ'.length
  · have old : ∀ b ∈ T, B b = none := fun b hb => by
      cases z : B b with
      | none => rfl
      | some u => exact absurd (f.tn b hb) (S0.mono b (by rw [z]; exact fun z => nomatch z))
    have ok' : SlotOk Θ.K B F' H' s (some y) T := by
      cases s with
      | shr p => obtain ⟨rfl, r⟩ := r; exact ⟨rfl, y, rfl, r⟩
      | own p => obtain ⟨b, rfl, rfl, c⟩ := r; exact ⟨b, rfl, rfl, t.no b (by simp), c⟩
      | own2 p => obtain ⟨b, bs, rfl, rfl, c⟩ := r; exact ⟨b, bs, rfl, rfl, t.no, c⟩
      | un => exact r.elim
      | frz2 _ => exact r.elim
    refine ⟨setA A' i T, S.put S.ext (Evl.Ex.refl _) (fun _ _ _ _ q => q) (fun _ _ _ _ _ q => q) h ok' t.nd (fun j b _ hb z => t.ap b z ⟨j, hb⟩) (fun _ b hb => old b hb) S.mono (fun _ _ => hi), f.ext, f.keep, fun b hb => ?_, (fun _ z => nomatch z), f.fre⟩
    rcases oa_set hb with hb | ⟨j, _, hb⟩
    · exact .inr (f.tn b hb)
    · exact f.own b ⟨j, hb⟩
  · have e1 : ρ'.set i s = ρ' := by rw [List.set_eq_of_length_le]; omega
    have e2 : σ.set i (some y) = σ := by rw [List.set_eq_of_length_le]; rw [← S.len]; omega
    rw [e1, e2]
    exact ⟨A', S, f.drop⟩
theorem keep_set {w : Option V} (k : Keep pr N.σ σ) (hi : i ∉ pr) : Keep pr N.σ (σ.set i w) := ⟨by rw [List.length_set]; exact k.1, fun j hj => by
  rw [List.getElem?_set_ne (by rintro rfl; exact hi hj)]; exact k.2 j hj⟩
theorem not_in {xs : List Nat} (h : xs.contains i = false) : i ∉ xs := fun z => by
  rw [List.contains_iff_mem.mpr z] at h; cases h
/-- name = value, by any reading that a run gives -/
theorem st_setTE {te : TE} {r : Rho → Rr Opd} (hP : ∀ j ∈ P, j ∈ pr) (hr : ∀ ρ o ρ', r ρ = .ok o ρ' → ∃ s, o = .imm s) (h : PS X st (tAsg te (gName i))) (w : ∀ σ H Q, tG Θ r P W σ H Q → te σ H Q) :
    PS X st (tSt Θ top (fun _ ρ => (r ρ).out fun o ρ => setSlot pr i o.sv ρ) P pr W) := by
  refine PS.weak h fun D σ H ⟨N, F, A, ρ, ρ0, _, _, a, q⟩ => w σ H _ ?_
  refine out_G a q fun o ρ' e k y F' H' A' T S' f' t' r' => ?_
  obtain ⟨s, rfl⟩ := hr _ _ _ e
  have k : Gs Θ P pr N W D (if pr.contains i then .bad else .nx (ρ'.set i s)) := k
  cases hc : pr.contains i with
  | true => rw [hc] at k; exact k.elim
  | false =>
    rw [hc] at k
    have hi := not_in hc
    obtain ⟨A2, S2, f2⟩ := set_res a.1 S' f' t' r' (fun z => hi (hP i z))
    exact (show nxS Θ P pr N D.nx (ρ'.set i s) from k) F' H' A2 _ ⟨S2, a.2.1.trans f2, keep_set a.2.2 hi⟩
end
end KL
end
section
set_option Elab.async false
set_option linter.all false
set_option maxRecDepth 100000
/-! KA17: more statements. -/
namespace KL
open PySem PySem.Spec PyProof.Rows L2
section
variable {Θ : Pm} {g : Gm} {P pr : List Nat} {W W0 : WX} {X : Cx} {x : Expr} {B F F' F1 H H' H1 : Hp} {A A' A1 : Ad} {T : List Addr} {ρ ρ' ρ1 ρ2 : Rho} {σ σ' σ2 : L2.St} {a : Addr} {i : Nat} {o : Opd} {v : V} {pos : Pos} {D : Ends} {N : Ent} {top : Bool} {st : Stmt} {sts : List Stmt}
/-! ### several names -/
theorem PG.weak {tg : Expr} {t t' : TG} (h : PG X tg t) (w : ∀ v σ H Q, t' v σ H Q → t v σ H Q) : PG X tg t' := ⟨fun pins s σ H v u Q I r q => h.run pins s σ H v u Q I r (w _ _ _ _ q)⟩
def gBoth (K : PySem.W.Frag) (n : Nat) (t : TGs) : TG := fun v σ H Q => gTup K n t v σ H Q ∨ gUnl K n t v σ H Q
theorem pg_both {es : List Expr} {k : Nat} {t : TGs} {n : Nat} (hc : X.calm = true) (h : PGs X es t) (hn : (assignEach es X.env).length = n) (hst : (assignEach es X.env).findIdx? (·.1) = none) : PG X (.Tuple es k pos) (gBoth X.K n t) :=
  ⟨fun pins s σ H v u Q I r q => q.elim (fun q => (pg_tup hc h hn hst).run pins s σ H v u Q I r q) fun q => (pg_unl hc h hn hst).run pins s σ H v u Q I r q⟩
inductive Names (X : Cx) : List Expr → List Nat → Prop where
  | nil : Names X [] []
  | cons {nm : Str} {p : Pos} {i : Nat} {es : List Expr} {is : List Nat} : X.N[i]? = some nm → Loc X.env.scope nm → (X.fn nm = true ∨ X.env.scope.names.lookup nm = some .local) → Names X es is → Names X (.Name nm p :: es) (i :: is)
theorem pgs_names (hN : X.N.Nodup) : ∀ {es : List Expr} {is : List Nat}, Names X es is → PGs X es (gMany is)
  | _, _, .nil => pgs_nil
  | _, _, .cons h1 h2 h3 t => pgs_cons (pg_name hN h1 h2 h3) (pgs_names hN t) rfl
theorem names_len : ∀ {es : List Expr} {is : List Nat}, Names X es is → (assignEach es X.env).length = is.length ∧ (assignEach es X.env).findIdx? (·.1) = none
  | _, _, .nil => ⟨rfl, rfl⟩
  | _, _, .cons (nm := nm) (p := p) (es := es) h1 h2 h3 t => by
    obtain ⟨h4, h5⟩ := names_len t
    have e : assignEach (.Name nm p :: es) X.env = (false, assign (.Name nm p) X.env) :: assignEach es X.env := rfl
    rw [e]
    refine ⟨by simp [h4], ?_⟩
    rw [List.findIdx?_cons]
    simp [h5]
theorem pg_tgt (hc : X.calm = true) (hN : X.N.Nodup) {es : List Expr} {is : List Nat} {k : Nat} (h : Names X es is) : PG X (.Tuple es k pos) (tgG X.K (.many is)) := pg_tup hc (pgs_names hN h) (names_len h).1 (names_len h).2
theorem keep_out {is : List Nat} (k : Keep pr N.σ σ) (hl : σ'.length = σ.length) (h : ∀ j, j ∉ is → σ'[j]? = σ[j]?) (hi : ∀ j ∈ is, j ∉ pr) : Keep pr N.σ σ' := ⟨hl.trans k.1, fun j hj => by
  rw [h j fun z => hi j z hj]; exact k.2 j hj⟩
theorem st_many {r : Rho → Rr Opd} {es : List Expr} {is : List Nat} {k : Nat} {tp : Pos} (hK : X.K = Θ.K) (hc : X.calm = true) (hN : X.N.Nodup) (hr : ∀ ρ o ρ', r ρ = .ok o ρ' → ∃ s, o = .imm s) (hes : Names X es is) (h : PE X x (tG Θ r P W))
    (hs : swapsWithSole [.Tuple es k tp] x pos.line X.env = pure false) (hw : swappedStores [.Tuple es k tp] x X.env = pure none) (h1 : (assignEach [.Tuple es k tp] X.env).map (·.2) = [assign (.Tuple es k tp) X.env]) :
    PS X (.Assign [.Tuple es k tp] x pos) (tSt Θ top (fun _ ρ => (r ρ).out fun o ρ => if is.all (fun i => !pr.contains i) then (match o.sv.val with
      | .tup vs => (match bindMany is vs ρ with | some ρ => .nx ρ | none => .bad)
      | .lst vs => (match bindMany is vs ρ with | some ρ => .nx ρ | none => .bad)
      | _ => .bad) else .bad) P pr W) := by
  refine PS.weak (ps_asg h (pg_both hc (pgs_names hN hes) (names_len hes).1 (names_len hes).2) hs hw h1) fun D σ H ⟨N, F, A, ρ, ρ0, _, _, a, q⟩ => ?_
  refine out_G a q fun o ρ' e k y F' H' A' T S' f' t' r' => ?_
  obtain ⟨s, rfl⟩ := hr _ _ _ e
  split at k
  · rename_i hall
    have hi : ∀ j ∈ is, j ∉ pr := fun j hj => not_in (by simpa using List.all_eq_true.mp hall j hj)
    obtain ⟨F2, S2, f2, e2, r2⟩ := Res.frz S' f' t' r'
    have r2 : Rep Θ.K F2 s.val y := r2
    have k : Gs Θ P pr N W D (match s.val with
      | .tup vs => (match bindMany is vs ρ' with | some ρ => .nx ρ | none => .bad)
      | .lst vs => (match bindMany is vs ρ' with | some ρ => .nx ρ | none => .bad)
      | _ => .bad) := k
    cases hv : s.val with
    | tup ps =>
      rw [hv] at k r2
      replace k : Gs Θ P pr N W D (match bindMany is ps ρ' with | some ρ => .nx ρ | none => .bad) := k
      cases hb : bindMany is ps ρ' with
      | none => rw [hb] at k; exact k.elim
      | some ρ3 =>
        rw [hb] at k
        simp only [Rep] at r2
        obtain ⟨b, vs, rfl, q1, q2⟩ := r2
        obtain ⟨σ3, A3, S3, f3, hl, hs3, hn, hq⟩ := bindMany_ok hb S2 q2
        exact .inl ⟨b, vs, rfl, by rw [hK]; exact Evl.ex_t S2.ext q1, hn, hq _ ((show nxS Θ P pr N D.nx ρ3 from k) F2 H' A3 σ3 ⟨S3, a.2.1.trans (f2.trans f3), keep_out a.2.2 hl hs3 hi⟩)⟩
    | lst ps =>
      rw [hv] at k r2
      replace k : Gs Θ P pr N W D (match bindMany is ps ρ' with | some ρ => .nx ρ | none => .bad) := k
      cases hb : bindMany is ps ρ' with
      | none => rw [hb] at k; exact k.elim
      | some ρ3 =>
        rw [hb] at k
        simp only [Rep] at r2
        obtain ⟨b, vs, rfl, q1, q2⟩ := r2
        obtain ⟨σ3, A3, S3, f3, hl, hs3, hn, hq⟩ := bindMany_ok hb S2 q2
        exact .inr ⟨b, vs, rfl, SqL.of (S2.ext _ _ q1), hn, hq _ ((show nxS Θ P pr N D.nx ρ3 from k) F2 H' A3 σ3 ⟨S3, a.2.1.trans (f2.trans f3), keep_out a.2.2 hl hs3 hi⟩)⟩
    | _ => rw [hv] at k; exact k.elim
  · exact k.elim
/-- return name, the name's own -/
theorem st_retv (hP : ∀ j ∈ P, j ∈ pr) {nm : Str} {p : Pos} (hN : X.N[i]? = some nm) (hv : Vis X.env.scope nm) (hd : (nm == ("__debug__" : Str)) = false) (hcd : (nm == ("__classdict__" : Str)) = false) :
    PS X (.Return (some (.Name nm p)) pos) (tSt Θ top (fun _ ρ => if pr.contains i then .bad else match ρ[i]? with
    | some (.shr v) => .rt (.shr v) ρ
    | some (.frz2 v) => .rt (.shr v) ρ
    | some (.own v) => .rt (.own v) (ρ.set i .un)
    | some (.own2 v) => .rt (.own2 v) (ρ.set i .un)
    | _ => .bad) P pr W) := by
  refine PS.weak (ps_ret (pe_var (i := i) hN hv hd hcd)) fun D σ H ⟨N, F, A, ρ, ρ0, _, _, a, q⟩ => ?_
  cases hc : pr.contains i with
  | true => simp only [hc, if_true] at q; exact q.elim
  | false =>
    simp only [hc, Bool.false_eq_true, if_false] at q
    have hi := not_in hc
    -- what is taken out of the slot
    have take : ∀ {o : V}, σ[i]? = some (some o) → Sta Θ.K P N.B F H (setA A i []) (ρ.set i .un) σ ∧ Frm N.F N.H N.A F H (setA A i []) [] := fun {o} ho => by
      have hlt : i < ρ.length := by rw [a.1.len]; exact (List.getElem?_eq_some_iff.mp ho).1
      have q := a.1.put (i := i) (s' := .un) (o' := some o) (as' := []) a.1.ext (Evl.Ex.refl _) (fun _ _ _ _ q => q) (fun _ _ _ _ _ q => q) hlt rfl List.nodup_nil (fun _ _ _ _ z => nomatch z) (fun _ _ z => nomatch z) a.1.mono (fun _ z => nomatch z)
      rw [set_self ho] at q
      refine ⟨q, a.2.1.ext, a.2.1.keep, fun b hb => ?_, (fun _ z => nomatch z), a.2.1.fre⟩
      rcases oa_set hb with hb | ⟨j, _, hb⟩
      · cases hb
      · exact a.2.1.own b ⟨j, hb⟩
    have tok : ∀ {as : List Addr}, A i = as → TOk (setA A i []) F H as := fun {as} e => by
      refine ⟨by rw [← e]; exact a.1.nd i, fun b hb z => ?_, fun b hb => (a.1.no (i := i) (by rw [e]; exact hb)).1, fun b hb => ?_⟩
      · rcases oa_set z with z | ⟨j, hj, z⟩
        · cases z
        · exact hj (a.1.dj j i b z (by rw [e]; exact hb))
      · obtain ⟨_, u, hu⟩ := a.1.no (i := i) (by rw [e]; exact hb)
        rw [hu]; exact fun z => nomatch z
    have tn : ∀ {as : List Addr}, A i = as → TN N as := fun {as} e b hb => ⟨a.2.1.own b ⟨i, by rw [e]; exact hb⟩, a.1.new i (fun z => hi (hP i z)) b (by rw [e]; exact hb)⟩
    cases hs : ρ[i]? with
    | none => rw [hs] at q; exact q.elim
    | some s =>
      rw [hs] at q
      obtain ⟨u, hu, ok⟩ := a.1.at hs
      cases s with
      | un => exact q.elim
      | shr p =>
        obtain ⟨_, y, hy, hr⟩ := ok
        subst hy
        exact ⟨y, hu, (show rtS Θ P pr N D.rt (.shr p) ρ from q) y F H A [] σ a.1 a.2.1 (fun _ z => nomatch z) a.2.2 TOk.nil ⟨rfl, hr⟩⟩
      | frz2 p =>
        obtain ⟨_, b, hy, hr, _⟩ := ok
        subst hy
        exact ⟨_, hu, (show rtS Θ P pr N D.rt (.shr p) ρ from q) _ F H A [] σ a.1 a.2.1 (fun _ z => nomatch z) a.2.2 TOk.nil ⟨rfl, hr⟩⟩
      | own p =>
        obtain ⟨b, hb, hy, hF, hc⟩ := ok
        subst hy
        obtain ⟨S2, f2⟩ := take hu
        exact ⟨_, hu, (show rtS Θ P pr N D.rt (.own p) (ρ.set i .un) from q) _ F H _ [b] σ S2 f2 (tn hb) a.2.2 (tok hb) ⟨b, rfl, rfl, hc⟩⟩
      | own2 p =>
        obtain ⟨b, bs, hb, hy, hF, hc⟩ := ok
        subst hy
        obtain ⟨S2, f2⟩ := take hu
        exact ⟨_, hu, (show rtS Θ P pr N D.rt (.own2 p) (ρ.set i .un) from q) _ F H _ (b :: bs) σ S2 f2 (tn hb) a.2.2 (tok hb) ⟨b, bs, rfl, rfl, hc⟩⟩
/-! ### a slot's own list or dict written -/
theorem setAt_own {w : PV} (S : Sta Θ.K P B F H A ρ σ) {b : Addr} {p : PV} {u : HO} (hs : ρ[i]? = some (.own p)) (hb : A i = [b]) (hF : F b = none) (hc : ∀ G : Hp, G b = some u → Cont Θ.K F G b w) :
    Sta Θ.K P B F (upd H b u) A (ρ.set i (.own w)) σ ∧ (Oa A b) := by
  obtain ⟨o, ho, ok⟩ := S.at hs
  obtain ⟨b', hb', hy, _, _⟩ := ok
  rw [hb] at hb'; cases hb'
  subst hy
  have hlt := S.lt hs
  have ne : ∀ j c, j ≠ i → c ∈ A j → c ≠ b := fun j c hj hc e => hj (S.dj j i c hc (by rw [hb, e]; simp))
  have q := S.put (F' := F) (H' := upd H b u) (i := i) (s' := .own w) (o' := some (.ref b)) (as' := [b]) (fun c z q => by
    rw [upd_ne]; exact S.ext c z q
    rintro rfl; rw [hF] at q; cases q) (Evl.Ex.refl _) (fun _ _ _ _ q => q) (fun j c hj hc z q => by rw [upd_ne (ne j c hj hc)]; exact q) hlt ⟨b, rfl, rfl, hF, hc _ upd_same⟩ (by simp) (fun j c hj hc z => ne j c hj hc (by simpa using z)) (fun hi c hc => by
      have e : c = b := by simpa using hc
      subst e; exact S.new i hi c (by rw [hb]; simp)) (upd_there S.mono) (fun _ z => nomatch z)
  rw [set_self ho] at q
  have e : setA A i [b] = A := by
    funext j
    unfold setA
    split
    · rename_i z; subst z; exact hb.symm
    · rfl
  rw [e] at q
  exact ⟨q, ⟨i, by rw [hb]; simp⟩⟩
/-- what writing at a slot's own leaves -/
theorem frm_write {u : HO} {b : Addr} (f : Frm F1 H1 A1 F H A []) (h : Oa A b) : Frm F1 H1 A1 F (upd H b u) A [] := by
  refine ⟨f.ext, fun a o h1 h2 h3 => ?_, f.own, (fun _ z => nomatch z), fun a q => upd_there f.fre a q⟩
  obtain ⟨k1, k2⟩ := f.keep a o h1 h2 h3
  refine ⟨k1, ?_⟩
  rw [upd_ne]; exact k2
  rintro rfl
  rcases f.own a h with z | z
  · exact h3 z
  · rw [z] at h2; cases h2
def tyL (X : Cx) : TSet := fun o i v H Q => rSetL o i v H Q ∨ rSetD o i v H Q
theorem set_both (hu : X.A.units + 1 < cLine) : PSet X (tyL X) := fun pins s σ H o i v ov iv u Q I r1 r2 r3 q => q.elim (fun q => set_list pins s σ H o i v ov iv u Q I r1 r2 r3 q) fun q => set_dict hu pins s σ H o i v ov iv u Q I r1 r2 r3 q
/-- name[key] = value -/
theorem st_setix {rv rk : Rho → Rr Opd} {kx : Expr} {nm : Str} {p tp : Pos} (hK : X.K = Θ.K) (hu : X.A.units + 1 < cLine) (hrv : ∀ ρ o ρ', rv ρ = .ok o ρ' → ∃ s, o = .imm s) (hrk : ∀ ρ o ρ', rk ρ = .ok o ρ' → ∃ s, o = .imm s) (hv : PE X x (tG Θ rv P W)) (hk : PE X kx (tG Θ rk P W))
    (hN : X.N[i]? = some nm) (hvi : Vis X.env.scope nm) (hd : (nm == ("__debug__" : Str)) = false) (hcd : (nm == ("__classdict__" : Str)) = false)
    (ha : ∀ v, assign (.Subscript (.Name nm p) kx tp) X.env v = (do
      let ov ← holding [v] (eval (.Name nm p) X.env)
      let iv ← holding [v, ov] (eval kx X.env)
      standAt tp
      holding [v, ov, iv] (setItem ov iv v)
      release [v, ov, iv] []))
    (hs : swapsWithSole [.Subscript (.Name nm p) kx tp] x pos.line X.env = pure false) (hw : swappedStores [.Subscript (.Name nm p) kx tp] x X.env = pure none) (h1 : (assignEach [.Subscript (.Name nm p) kx tp] X.env).map (·.2) = [assign (.Subscript (.Name nm p) kx tp) X.env]) :
    PS X (.Assign [.Subscript (.Name nm p) kx tp] x pos) (tSt Θ top (fun _ ρ => (rv ρ).out fun v ρ => if isOwnAt ρ i then (rk ρ).out fun k ρ => setOwn (setIx k.sv.val v.sv.val) i ρ else .bad) P pr W) := by
  refine PS.weak (ps_asg (PE.opd hv) (pg_sub (pe_var (i := i) hN hvi hd hcd) (PE.opd hk) (set_both hu) ha) hs hw h1) fun D σ H ⟨N, F, A, ρ, ρ0, _, _, a, q⟩ => ?_
  replace q : Gs Θ P pr N W D ((rv ρ).out fun v ρ => if isOwnAt ρ i then (rk ρ).out fun k ρ => setOwn (setIx k.sv.val v.sv.val) i ρ else .bad) := q
  refine ⟨N.B, F, A, ρ, a.1, ?_⟩
  cases hrv1 : rv ρ with
  | bad => rw [hrv1] at q; exact q.elim
  | exc p ρ' =>
    rw [hrv1] at q
    intro c d F' H' A' S' f' e'
    exact (show exS Θ P pr N W p ρ' from q) c d F' H' A' σ (a.on S' f') e'
  | ok ov ρ1 =>
    rw [hrv1] at q
    intro y F1 H1 A1 S1 f1 r1
    have a1 := a.on S1 f1
    replace q : Gs Θ P pr N W D (if isOwnAt ρ1 i then (rk ρ1).out fun k ρ => setOwn (setIx k.sv.val ov.sv.val) i ρ else .bad) := q
    obtain ⟨sv, rfl⟩ := hrv _ _ _ hrv1
    split at q
    · rename_i hown
      have at1 : ∃ b, σ[i]? = some (some (.ref b)) := by
        unfold isOwnAt at hown
        split at hown
        · rename_i p0 hp0
          obtain ⟨o, ho, ok⟩ := a1.1.at hp0
          obtain ⟨b, _, hy, _⟩ := ok
          subst hy
          exact ⟨b, ho⟩
        · cases hown
      obtain ⟨b, hσ⟩ := at1
      refine ⟨_, hσ, ?_⟩
      refine ⟨N.B, F1, A1, ρ1, S1, ?_⟩
      cases hrk1 : rk ρ1 with
      | bad => rw [hrk1] at q; exact q.elim
      | exc p ρ' =>
        rw [hrk1] at q
        intro c d F' H' A' S' f' e'
        exact (show exS Θ P pr N W p ρ' from q) c d F' H' A' σ (a1.on S' f') e'
      | ok ok ρ2 =>
        rw [hrk1] at q
        obtain ⟨sk, rfl⟩ := hrk _ _ _ hrk1
        intro z F2 H2 A2 S2 f2 r2
        have a2 := a1.on S2 f2
        replace q : Gs Θ P pr N W D (setOwn (setIx sk.val sv.val) i ρ2) := q
        have ry : Rep Θ.K F2 sv.val y := Rep.mono f2.ext r1
        have rz : Rep Θ.K F2 sk.val z := r2
        unfold setOwn at q
        cases hs : ρ2[i]? with
        | none => rw [hs] at q; exact q.elim
        | some s2 =>
          rw [hs] at q
          cases s2 with
          | own p2 =>
            replace q : Gs Θ P pr N W D (match setIx sk.val sv.val p2 with | some w => .nx (ρ2.set i (.own w)) | none => .bad) := q
            obtain ⟨o, ho, ok⟩ := S2.at hs
            obtain ⟨b', hb, hy, hF, hc⟩ := ok
            subst hy
            rw [hσ] at ho; cases ho
            cases p2 with
            | lst xs =>
              obtain ⟨vs, q1, q2⟩ := hc
              cases hk' : sk.val with
              | int k =>
                rw [hk'] at q rz
                have hz : z = .int k := by simpa [Rep] using rz
                subst hz
                replace q : Gs Θ P pr N W D (match (if 0 ≤ k ∧ k < xs.length then some (PV.lst (xs.set k.toNat sv.val)) else none) with | some w => .nx (ρ2.set i (.own w)) | none => .bad) := q
                split at q
                · rename_i w hw
                  split at hw
                  · rename_i hkk
                    cases hw
                    obtain ⟨S3, o3⟩ := setAt_own (w := .lst (xs.set k.toNat sv.val)) (u := .lst (vs.set k.toNat y)) S2 hs hb hF fun G hG => ⟨_, hG, Reps.set ry k.toNat q2⟩
                    refine .inl ⟨b, vs, k, k.toNat, rfl, rfl, q1, ?_, (show nxS Θ P pr N D.nx _ from q) F2 _ A2 σ ⟨S3, frm_write a2.2.1 o3, a2.2.2⟩⟩
                    unfold L2.ixN
                    rw [if_pos hkk.1, if_pos (by rw [← q2.len]; exact hkk.2)]
                  · cases hw
                · exact q.elim
              | _ => rw [hk'] at q; exact q.elim
            | dct kvs =>
              obtain ⟨ks, q1, q2⟩ := hc
              replace q : Gs Θ P pr N W D (match (if keyPV sk.val && decide (kvs.length < big) then some (PV.dct (putPV sk.val sv.val kvs)) else none) with | some w => .nx (ρ2.set i (.own w)) | none => .bad) := q
              split at q
              · rename_i w hw
                split at hw
                · rename_i hkk
                  cases hw
                  simp only [Bool.and_eq_true, decide_eq_true_eq] at hkk
                  obtain ⟨k', hk'⟩ := keyPV_of hkk.1
                  have hz : z = kV k' := keyOf_kV hk' (Tp.of S2.ext rz)
                  subst hz
                  obtain ⟨S3, o3⟩ := setAt_own (w := .dct (putPV sk.val sv.val kvs)) (u := .dK (putK ks k' y)) S2 hs hb hF fun G hG => ⟨_, hG, RepD.put hk' ry q2⟩
                  exact .inr ⟨b, _, rfl, DPut.k q1 (by rw [q2.len]; exact hkk.2), (show nxS Θ P pr N D.nx _ from q) F2 _ A2 σ ⟨S3, frm_write a2.2.1 o3, a2.2.2⟩⟩
                · cases hw
              · exact q.elim
            | _ => exact hc.elim
          | _ => exact q.elim
    · exact q.elim
theorem paired_app {α β : Type} {R : α → β → Prop} : ∀ {as as' : List α} {bs bs' : List β}, Paired R as bs → Paired R as' bs' → Paired R (as ++ as') (bs ++ bs')
  | _, _, _, _, .nil, h => h
  | _, _, _, _, .cons a t, h => .cons a (paired_app t h)
/-! ### name.append(value) -/
theorem st_app {r : Rho → Rr Opd} {nm : Str} {p apos ep : Pos} {d : Bool} (hr : ∀ ρ o ρ', r ρ = .ok o ρ' → ∃ s, o = .imm s) (hv : PE X x (tG Θ r P W)) (hN : X.N[i]? = some nm) (hvi : Vis X.env.scope nm) (hd : (nm == ("__debug__" : Str)) = false) (hcd : (nm == ("__classdict__" : Str)) = false)
    (hbase : attributeBase (.Name nm p) "append" X.env (eval (.Name nm p) X.env) = eval (.Name nm p) X.env)
    (hfew : ((backTo pos (starEach [x] X.env)).all (fun x => !x.1) && (backToKw pos (keywordEach [] X.env)).all (fun x => x.1.isSome)
      && decide ([x].length + ([] : List Keyword).length + (if ([] : List Keyword).isEmpty then 0 else 1) < 30)) = true)
    (hline : (apos.endLine == pos.line) = true) (hse : starEach [x] X.env = (false, eval x X.env) :: starEach [] X.env) (hplain : (backTo pos (starEach [] X.env)).any (·.1) = false)
    (hsw : swapsWith (.Call (.Attribute (.Name nm p) "append" apos) [x] [] pos) none ep.line X.env = pure false) :
    PS X (.Expr (.Call (.Attribute (.Name nm p) "append" apos) [x] [] pos) ep) (tSt Θ top (fun _ ρ => if isLstAt ρ i then (r ρ).out fun v ρ => appO d i v.sv ρ else .bad) P pr W) := by
  refine PS.weak (ps_expr (pe_bm PySem.F.plainAttrs_list PySem.F.slot_list_append (by rfl) mt_append (pe_var (i := i) hN hvi hd hcd) (pa_cons hv pa_nil hse) hbase hfew hline hse hplain) hsw) fun D σ H ⟨N, F, A, ρ, ρ0, _, _, a, q⟩ => ?_
  replace q : Gs Θ P pr N W D (if isLstAt ρ i then (r ρ).out fun v ρ => appO d i v.sv ρ else .bad) := q
  split at q
  · rename_i hl
    have at1 : ∃ b vs, σ[i]? = some (some (.ref b)) ∧ H b = some (.lst vs) := by
      unfold isLstAt at hl
      split at hl
      · rename_i xs0 h0
        obtain ⟨o, ho, b, _, hy, _, vs, q1, _⟩ := a.1.at h0
        subst hy
        exact ⟨b, vs, ho, q1⟩
      · rename_i xs0 h0
        obtain ⟨o, ho, b, bs, _, hy, _, q1, _⟩ := a.1.at h0
        subst hy
        exact ⟨b, _, ho, q1⟩
      · cases hl
    obtain ⟨b, vs0, hσ, hH⟩ := at1
    refine ⟨_, hσ, .inl ⟨rfl, vs0, SqL.of hH⟩, ?_⟩
    refine out_G a q fun o ρ' e k y F' H' A' T S' f' t' r' => ?_
    obtain ⟨s, rfl⟩ := hr _ _ _ e
    have a' := a.2.1.trans f'.drop
    cases d with
    | false =>
      replace k : Gs Θ P pr N W D (match ρ'[i]? with
        | some (.own (.lst xs)) => if xs.length < big then .nx (ρ'.set i (.own (.lst (xs ++ [s.val])))) else .bad
        | _ => .bad) := k
      obtain ⟨F2, S2, f2, e2, r2⟩ := Res.frz S' f' t' r'
      have r2 : Rep Θ.K F2 s.val y := r2
      cases hs : ρ'[i]? with
      | none => rw [hs] at k; exact k.elim
      | some s2 =>
        rw [hs] at k
        cases s2 with
        | own p2 =>
          cases p2 with
          | lst xs =>
            replace k : Gs Θ P pr N W D (if xs.length < big then .nx (ρ'.set i (.own (.lst (xs ++ [s.val])))) else .bad) := k
            split at k
            · rename_i hz
              obtain ⟨o, ho, b', hb, hy, hF, vs, q1, q2⟩ := S2.at hs
              subst hy
              rw [hσ] at ho; cases ho
              obtain ⟨S3, o3⟩ := setAt_own (w := .lst (xs ++ [s.val])) (u := .lst (vs ++ [y])) S2 hs hb hF fun G hG => ⟨_, hG, q2.append (.cons r2 Reps.nil)⟩
              exact ⟨b, vs, y, rfl, rfl, q1, by rw [← q2.len]; exact hz, (show nxS Θ P pr N D.nx _ from k) F2 _ A' σ ⟨S3, frm_write (a.2.1.trans f2) o3, a.2.2⟩⟩
            · exact k.elim
          | _ => exact k.elim
        | _ => exact k.elim
    | true =>
      replace k : Gs Θ P pr N W D (match ρ'[i]? with
        | some (.own2 (.lst xs)) => if xs.length < big && isOwnL s then .nx (ρ'.set i (.own2 (.lst (xs ++ [s.val])))) else .bad
        | _ => .bad) := k
      cases hs : ρ'[i]? with
      | none => rw [hs] at k; exact k.elim
      | some s2 =>
        rw [hs] at k
        cases s2 with
        | own2 p2 =>
          cases p2 with
          | lst xs =>
            replace k : Gs Θ P pr N W D (if xs.length < big && isOwnL s then .nx (ρ'.set i (.own2 (.lst (xs ++ [s.val])))) else .bad) := k
            split at k
            · rename_i hz
              simp only [Bool.and_eq_true, decide_eq_true_eq] at hz
              obtain ⟨hz, hl2⟩ := hz
              obtain ⟨zs, rfl⟩ : ∃ zs, s = .own (.lst zs) := by
                cases s with
                | own w => cases w <;> first | exact ⟨_, rfl⟩ | cases hl2
                | _ => cases hl2
              obtain ⟨c, rfl, rfl, hc⟩ := r'
              obtain ⟨o, ho, b', bs, hb, hy, hF, q1, q2⟩ := S'.at hs
              subst hy
              rw [hσ] at ho; cases ho
              have hcA : ∀ j, c ∉ A' j := fun j z => t'.ap c (by simp) ⟨j, z⟩
              have nb : ∀ z ∈ b :: bs, z ≠ c := fun z hz e => hcA i (by rw [hb, ← e]; exact hz)
              have ndb := S'.nd i
              rw [hb] at ndb
              obtain ⟨nb1, nb2⟩ := List.nodup_cons.mp ndb
              have ne : ∀ j z, j ≠ i → z ∈ A' j → z ≠ b := fun j z hj hz e => hj (S'.dj j i z hz (by rw [hb, e]; simp))
              have hcB : N.B c = none := by
                cases z : N.B c with
                | none => rfl
                | some u => exact absurd (f'.tn c (by simp)) (a.1.mono c (by rw [z]; exact fun z => nomatch z))
              have stay : ∀ z ∈ bs ++ [c], ∀ u, H' z = some u → upd H' b (.lst ((bs ++ [c]).map V.ref)) z = some u := fun z hz u q => by
                rw [upd_ne]; exact q
                rintro rfl
                rcases List.mem_append.mp hz with hz | hz
                · exact nb1 hz
                · exact nb z (by simp) (List.mem_singleton.mp hz)
              have cont : Cont2 Θ.K F' (upd H' b (.lst ((bs ++ [c]).map V.ref))) b (bs ++ [c]) (.lst (xs ++ [PV.lst zs])) := by
                refine ⟨upd_same, ?_⟩
                have base : Paired (fun y b => (∃ zs, y = PV.lst zs) ∧ Cont Θ.K F' H' b y) (xs ++ [PV.lst zs]) (bs ++ [c]) := paired_app q2 (.cons ⟨⟨zs, rfl⟩, hc⟩ .nil)
                revert base stay
                generalize upd H' b (.lst ((bs ++ [c]).map V.ref)) = G
                generalize bs ++ [c] = cs
                generalize xs ++ [PV.lst zs] = ys
                intro stay base
                induction base with
                | nil => exact .nil
                | cons p q ih => exact .cons ⟨p.1, p.2.on (Evl.Ex.refl _) (stay _ (by simp))⟩ (ih fun z hz => stay z (by simp [hz]))
              have len : xs.length = bs.length := q2.length
              have q := S'.put (F' := F') (H' := upd H' b (.lst ((bs ++ [c]).map V.ref))) (i := i) (s' := .own2 (.lst (xs ++ [PV.lst zs]))) (o' := some (.ref b)) (as' := b :: (bs ++ [c])) (fun z u q => by
                rw [upd_ne]; exact S'.ext z u q
                rintro rfl; rw [hF z (by simp)] at q; cases q) (Evl.Ex.refl _) (fun _ _ _ _ q => q) (fun j z hj hz u q => by rw [upd_ne (ne j z hj hz)]; exact q) (S'.lt hs)
                ⟨b, bs ++ [c], rfl, rfl, fun z hz => by
                  rcases List.mem_cons.mp hz with rfl | hz
                  · exact hF z (by simp)
                  · rcases List.mem_append.mp hz with hz | hz
                    · exact hF z (by simp [hz])
                    · rw [List.mem_singleton.mp hz]; exact t'.no c (by simp), cont⟩
                (List.nodup_cons.mpr ⟨fun z => by
                  rcases List.mem_append.mp z with z | z
                  · exact nb1 z
                  · exact nb b (by simp) (List.mem_singleton.mp z), List.nodup_append.mpr ⟨nb2, by simp, fun z hz w hw e => nb z (by simp [hz]) (e.trans (List.mem_singleton.mp hw))⟩⟩)
                (fun j z hj hz hw => by
                  rcases List.mem_cons.mp hw with rfl | hw
                  · exact ne j z hj hz rfl
                  · rcases List.mem_append.mp hw with hw | hw
                    · exact hj (S'.dj j i z hz (by rw [hb]; simp [hw]))
                    · rw [List.mem_singleton.mp hw] at hz; exact hcA j hz)
                (fun hi z hz => by
                  rcases List.mem_cons.mp hz with rfl | hz
                  · exact S'.new i hi z (by rw [hb]; simp)
                  · rcases List.mem_append.mp hz with hz | hz
                    · exact S'.new i hi z (by rw [hb]; simp [hz])
                    · rw [List.mem_singleton.mp hz]; exact hcB) (upd_there S'.mono) (fun w hw => S'.np i _ hs)
              rw [set_self hσ] at q
              have ob : Oa A' b := ⟨i, by rw [hb]; simp⟩
              have fw := frm_write (u := .lst ((bs ++ [c]).map V.ref)) a' ob
              refine ⟨b, bs.map V.ref, .ref c, rfl, rfl, q1, by rw [List.length_map, ← len]; exact hz, ?_⟩
              have e1 : bs.map V.ref ++ [V.ref c] = (bs ++ [c]).map V.ref := by simp
              rw [e1]
              refine (show nxS Θ P pr N D.nx _ from k) F' _ _ σ ⟨q, ⟨fw.ext, fw.keep, fun z hz => ?_, (fun _ z => nomatch z), fw.fre⟩, a.2.2⟩
              rcases oa_set hz with hz | ⟨j, _, hz⟩
              · rcases List.mem_cons.mp hz with rfl | hz
                · exact a'.own z ob
                · rcases List.mem_append.mp hz with hz | hz
                  · exact a'.own z ⟨i, by rw [hb]; simp [hz]⟩
                  · rw [List.mem_singleton.mp hz]; exact .inr (a.2.1.nn (f'.tn c (by simp)))
              · exact a'.own z ⟨j, hz⟩
            · exact k.elim
          | _ => exact k.elim
        | _ => exact k.elim
  · exact q.elim
end
end KL
end
section
set_option Elab.async false
set_option linter.all false
set_option maxRecDepth 100000
/-! KA18: loops. -/
namespace KL
open PySem PySem.Spec PyProof.Rows L2
section
variable {Θ : Pm} {g : Gm} {P pr : List Nat} {W W0 : WX} {X : Cx} {x : Expr} {B F F' F1 H H' H1 : Hp} {A A' A1 : Ad} {T : List Addr} {ρ ρ' ρ1 ρ2 : Rho} {σ σ' σ2 : L2.St} {a : Addr} {i : Nat} {o : Opd} {v : V} {pos : Pos} {D : Ends} {N : Ent} {top : Bool} {st : Stmt} {sts : List Stmt}
/-- where a loop's turns begin -/
def Ent.loop (N : Ent) (F1 H1 : Hp) (A1 : Ad) (ρ1 : Rho) (σ : L2.St) (hd : List Nat) : Ent := ⟨N.B, F1, H1, wipeA A1 hd, wipeR ρ1 hd, σ⟩
theorem at_len {N' : Ent} (S1 : Sta Θ.K P B F1 H1 A1 ρ1 σ) (h : N'.σ = σ) (a2 : At Θ P pr N' F' H' A' ρ' σ') : ρ'.length = ρ1.length := by rw [a2.1.len, a2.2.2.1, h, S1.len]
theorem at_back {hd : List Nat} (a1 : At Θ P pr N F1 H1 A1 ρ1 σ) (a2 : At Θ P (hd ++ pr) (N.loop F1 H1 A1 ρ1 σ hd) F' H' A' ρ' σ') : At Θ P pr N F' H' (backA A1 A' hd) (backR ρ1 ρ' hd) σ' := by
  have hl := at_len a1.1 rfl a2
  obtain ⟨S2, f2, kl, k2⟩ := a2
  have f2 : Frm F1 H1 (wipeA A1 hd) F' H' A' [] := f2
  refine ⟨a1.1.back (τ := σ') S2 f2 hl (fun j hj => k2 j (List.mem_append_left _ hj)) (fun _ _ => rfl) kl (fun _ _ h => h) (fun _ _ h => h), a1.2.1.trans f2.back, kl.trans a1.2.2.1, fun j hj => ?_⟩
  rw [k2 j (List.mem_append_right _ hj)]
  exact a1.2.2.2 j hj
/-- what is wanted behind the loop, at a turn's end -/
theorem gs_back {hd : List Nat} (a1 : At Θ P pr N F1 H1 A1 ρ1 σ) : ∀ {o : Outc}, Gs Θ P pr N W D (o.bak ρ1 hd) → Gs Θ P (hd ++ pr) (N.loop F1 H1 A1 ρ1 σ hd) W D o
  | .nx ρ', h => fun F' H' A' σ' a2 => h F' H' _ σ' (at_back a1 a2)
  | .bk ρ', h => fun F' H' A' σ' a2 => h F' H' _ σ' (at_back a1 a2)
  | .ct ρ', h => fun F' H' A' σ' a2 => h F' H' _ σ' (at_back a1 a2)
  | .ex p ρ', h => fun c d F' H' A' σ' a2 e => h c d F' H' _ σ' (at_back a1 a2) e
  | .bad, h => h
  | .rt w ρ', h => fun y F' H' A' T σ' S' f' tn k' t' r' => by
    have ab := at_back a1 ⟨S', f', k'⟩
    refine (show rtS Θ P pr N D.rt w _ from h) y F' H' _ T σ' ab.1 ab.2.1 (fun b hb => ⟨?_, (tn b hb).2⟩) ab.2.2 ⟨t'.nd, fun b hb ⟨j, hj⟩ => ?_, t'.no, t'.th⟩ r'
    · rcases (tn b hb).1 with z | z
      · obtain ⟨j, _, hj⟩ := oa_wipe z
        exact a1.2.1.own b ⟨j, hj⟩
      · exact .inr (a1.2.1.nn z)
    · unfold backA at hj
      split at hj
      · rename_i hjd
        rcases (tn b hb).1 with z | z
        · obtain ⟨k, hk, hb'⟩ := oa_wipe z
          exact hk (a1.1.dj j k b hj hb' ▸ hjd)
        · obtain ⟨_, u, hu⟩ := a1.1.no hj
          have z : H1 b = none := z
          rw [z] at hu; cases hu
      · exact t'.ap b hb ⟨j, hj⟩
theorem apart_not {xs ys : List Nat} (h : apart xs ys = true) : ∀ j ∈ xs, j ∉ ys := fun j hj => not_in (by simpa using List.all_eq_true.mp h j hj)
/-- for target in iter: body -/
theorem st_for {tg : Tgt} {tgE itE : Expr} {ri : Rho → Rr (List PV × List Nat)} {rb : List Nat → Rho → Rho → Outc} {body : List Stmt} (hK : X.K = Θ.K) (hp : PassesOwn (model X.prog X.w) X.A X.env X.xe) (hc : X.calm = true) (hi : PI X tgE itE (tI Θ ri P W)) (hg : PG X tgE (tgG X.K tg))
    (hb : ∀ pr', (∀ j ∈ pr, j ∈ pr') → PSs X body (tSt Θ false (rb pr') P pr' W)) (hs : ∀ x, foldedSetIterable itE X.env x = pure x) :
    PS X (.For tgE itE body [] pos) (tSt Θ top (fun ρ0 ρ => (ri ρ).out fun xs ρ =>
      if apart (tgSlots tg) (xs.2 ++ pr) then (forL tg (fun ρ' => rb (xs.2 ++ pr) ρ0 ρ') xs.1 (wipeR ρ xs.2)).bak ρ xs.2 else .bad) P pr W) := by
  -- the body's promise depends on what is hidden: it is taken at each run
  refine ⟨fun pins s σ H D I h => ?_⟩
  obtain ⟨N, F, A, ρ, ρ0, S0, ht, a, q⟩ := h
  replace q : Gs Θ P pr N W D ((ri ρ).out fun xs ρ => if apart (tgSlots tg) (xs.2 ++ pr) then (forL tg (fun ρ' => rb (xs.2 ++ pr) ρ0 ρ') xs.1 (wipeR ρ xs.2)).bak ρ xs.2 else .bad) := q
  -- the body as a run of its own, whatever is hidden
  have hbody : PSs X body (fun D σ H => ∃ hd, tSt Θ false (rb (hd ++ pr)) P (hd ++ pr) W D σ H) := ⟨fun pins s σ H D I ⟨hd, h⟩ => (hb (hd ++ pr) fun j hj => List.mem_append_right _ hj).run pins s σ H D I h⟩
  refine (ps_for hp hc hi hg hbody hs).run pins s σ H D I ?_
  refine ⟨N.B, F, A, ρ, a.1, ?_⟩
  cases hri : ri ρ with
  | bad => rw [hri] at q; exact q.elim
  | exc p ρ' =>
    rw [hri] at q
    intro c d F' H' A' S' f' e'
    exact (show exS Θ P pr N W p ρ' from q) c d F' H' A' σ (a.on S' f') e'
  | ok p ρ1 =>
    rw [hri] at q
    intro J F1 H1 A1 S1 f1 wk
    have a1 := a.on S1 f1
    replace q : Gs Θ P pr N W D (if apart (tgSlots tg) (p.2 ++ pr) then (forL tg (fun ρ' => rb (p.2 ++ pr) ρ0 ρ') p.1 (wipeR ρ1 p.2)).bak ρ1 p.2 else .bad) := q
    split at q
    · rename_i hap
      have hap := apart_not hap
      have q := gs_back a1 q
      have aw : At Θ P (p.2 ++ pr) (N.loop F1 H1 A1 ρ1 σ p.2) F1 H1 (wipeA A1 p.2) (wipeR ρ1 p.2) σ := ⟨a1.1.wipe p.2 rfl (fun _ _ => rfl) (fun j hj => .inl hj) fun j v h _ => a1.1.np j v h, Frm.refl _ _ _, rfl, fun _ _ => rfl⟩
      refine ⟨fun i m σ2 H2 => ∃ F2 A2 ρ2, m = p.1.length - i ∧ i ≤ p.1.length ∧ At Θ P (p.2 ++ pr) (N.loop F1 H1 A1 ρ1 σ p.2) F2 H2 A2 ρ2 σ2 ∧ Gs Θ P (p.2 ++ pr) (N.loop F1 H1 A1 ρ1 σ p.2) W D (forL tg (fun ρ' => rb (p.2 ++ pr) ρ0 ρ') (p.1.drop i) ρ2),
        ⟨p.1.length, F1, _, _, by simp, Nat.zero_le _, aw, q⟩, ?_⟩
      rintro i m σ2 H2 ⟨F2, A2, ρ2, rfl, hi2, a2, q2⟩
      have f2 : Frm F1 H1 (wipeA A1 p.2) F2 H2 A2 [] := a2.2.1
      have wk2 := wk P N.B F2 H2 A2 ρ2 σ2 a2.1 f2.ext (fun _ => f2) i
      by_cases hlt : i < p.1.length
      · obtain ⟨pv, hp', hdr⟩ := drop_of hlt
        rw [hdr] at q2
        obtain ⟨go, yl⟩ := wk2.1 pv hp'
        replace q2 : Gs Θ P (p.2 ++ pr) (N.loop F1 H1 A1 ρ1 σ p.2) W D (match bindTg tg pv ρ2 with
          | none => .bad
          | some ρ1' => match rb (p.2 ++ pr) ρ0 ρ1' with
            | .nx ρ2 => forL tg (fun ρ' => rb (p.2 ++ pr) ρ0 ρ') (p.1.drop (i + 1)) ρ2
            | .ct ρ2 => forL tg (fun ρ' => rb (p.2 ++ pr) ρ0 ρ') (p.1.drop (i + 1)) ρ2
            | .bk ρ2 => .nx ρ2
            | o => o) := q2
        refine .inr ⟨go, fun σ' H' => ∃ F A ρ, At Θ P (p.2 ++ pr) (N.loop F1 H1 A1 ρ1 σ p.2) F H' A ρ σ' ∧ Gs Θ P (p.2 ++ pr) (N.loop F1 H1 A1 ρ1 σ p.2) W D (forL tg (fun ρ' => rb (p.2 ++ pr) ρ0 ρ') (p.1.drop (i + 1)) ρ), fun σ' H' ⟨F', A', ρ', a', e'⟩ => ?_, fun y H3 hy => ?_⟩
        · exact ⟨p.1.length - (i + 1), by omega, F', A', ρ', rfl, hlt, a', e'⟩
        · obtain ⟨F3, S3, f3, ry⟩ := yl y H3 hy
          cases hbt : bindTg tg pv ρ2 with
          | none => rw [hbt] at q2; exact q2.elim
          | some ρ3 =>
            rw [hbt] at q2
            obtain ⟨σ4, A4, S4, f4, hl4, hs4, hq4⟩ := tg_ok hK hbt S3 ry
            refine hq4 _ ?_
            have a4 : At Θ P (p.2 ++ pr) (N.loop F1 H1 A1 ρ1 σ p.2) F3 H3 A4 ρ3 σ4 := ⟨S4, f2.trans (f3.trans f4), keep_out (N := N.loop F1 H1 A1 ρ1 σ p.2) a2.2.2 hl4 hs4 hap⟩
            refine ⟨p.2, N.loop F1 H1 A1 ρ1 σ p.2, F3, A4, ρ3, ρ0, aw.1, (fun z => nomatch z), a4, ?_⟩
            replace q2 : Gs Θ P (p.2 ++ pr) (N.loop F1 H1 A1 ρ1 σ p.2) W D (match rb (p.2 ++ pr) ρ0 ρ3 with
              | .nx ρ2 => forL tg (fun ρ' => rb (p.2 ++ pr) ρ0 ρ') (p.1.drop (i + 1)) ρ2
              | .ct ρ2 => forL tg (fun ρ' => rb (p.2 ++ pr) ρ0 ρ') (p.1.drop (i + 1)) ρ2
              | .bk ρ2 => .nx ρ2
              | o => o) := q2
            cases hrb : rb (p.2 ++ pr) ρ0 ρ3 with
            | nx ρ5 => rw [hrb] at q2; exact fun F' H' A' σ' a' => ⟨F', A', ρ5, a', q2⟩
            | ct ρ5 => rw [hrb] at q2; exact fun F' H' A' σ' a' => ⟨F', A', ρ5, a', q2⟩
            | bk ρ5 => rw [hrb] at q2; exact q2
            | rt w ρ5 => rw [hrb] at q2; exact q2
            | ex w ρ5 => rw [hrb] at q2; exact q2
            | bad => rw [hrb] at q2; exact q2
      · have e : i = p.1.length := by omega
        subst e
        rw [List.drop_length] at q2
        exact .inl ⟨wk2.2 rfl, q2 F2 H2 A2 σ2 a2⟩
    · exact q.elim
/-- while test: body -/
theorem st_while {rt : Rho → Rr Opd} {rb : Rho → Rho → Outc} {body : List Stmt} (hp : PassesOwn (model X.prog X.w) X.A X.env X.xe) (ht : PT X x (tT Θ rt P W)) (hb : PSs X body (tSt Θ false rb P pr W)) :
    PS X (.While x body [] pos) (tSt Θ top (fun ρ0 ρ => whlN (fun ρ => (rt ρ).bnd fun o ρ => .ok o.tru ρ) (fun ρ => rb ρ0 ρ) fuel ρ) P pr W) := by
  refine PS.weak (ps_while hp ht hb) fun D σ H ⟨N, F, A, ρ, ρ0, S0, htop, a, q⟩ => ?_
  refine ⟨fun m σ H => ∃ F A ρ, At Θ P pr N F H A ρ σ ∧ Gs Θ P pr N W D (whlN (fun ρ => (rt ρ).bnd fun o ρ => .ok o.tru ρ) (fun ρ => rb ρ0 ρ) m ρ), ⟨fuel, F, A, ρ, a, q⟩, ?_⟩
  rintro m σ1 H1 ⟨F1, A1, ρ1, a1, q1⟩
  cases m with
  | zero => exact q1.elim
  | succ m =>
    replace q1 : Gs Θ P pr N W D (((rt ρ1).bnd fun o ρ => Rr.ok o.tru ρ).out fun b ρ => if b then (match rb ρ0 ρ with
      | .nx ρ2 => whlN (fun ρ => (rt ρ).bnd fun o ρ => .ok o.tru ρ) (fun ρ => rb ρ0 ρ) m ρ2
      | .ct ρ2 => whlN (fun ρ => (rt ρ).bnd fun o ρ => .ok o.tru ρ) (fun ρ => rb ρ0 ρ) m ρ2
      | .bk ρ2 => .nx ρ2
      | o => o) else .nx ρ) := q1
    refine ⟨N.B, F1, A1, ρ1, a1.1, ?_⟩
    cases hr : rt ρ1 with
    | bad => rw [hr] at q1; exact q1.elim
    | exc p ρ' =>
      rw [hr] at q1
      intro c d F' H' A' S' f' e'
      exact (show exS Θ P pr N W p ρ' from q1) c d F' H' A' σ1 (a1.on S' f') e'
    | ok o ρ2 =>
      rw [hr] at q1
      intro F2 H2 A2 S2 f2
      have a2 := a1.on S2 f2
      replace q1 : Gs Θ P pr N W D (if o.tru then (match rb ρ0 ρ2 with
      | .nx ρ2 => whlN (fun ρ => (rt ρ).bnd fun o ρ => .ok o.tru ρ) (fun ρ => rb ρ0 ρ) m ρ2
      | .ct ρ2 => whlN (fun ρ => (rt ρ).bnd fun o ρ => .ok o.tru ρ) (fun ρ => rb ρ0 ρ) m ρ2
      | .bk ρ2 => .nx ρ2
      | o => o) else .nx ρ2) := q1
      cases hc : o.tru with
      | false => rw [hc] at q1; exact q1 F2 H2 A2 σ1 a2
      | true =>
        rw [hc] at q1
        refine ⟨fun σ' H' => ∃ F A ρ, At Θ P pr N F H' A ρ σ' ∧ Gs Θ P pr N W D (whlN (fun ρ => (rt ρ).bnd fun o ρ => .ok o.tru ρ) (fun ρ => rb ρ0 ρ) m ρ), fun σ' H' h => ⟨m, Nat.lt_succ_self m, h⟩, ?_⟩
        refine ⟨N, F2, A2, ρ2, ρ0, S0, (fun z => nomatch z), a2, ?_⟩
        replace q1 : Gs Θ P pr N W D (match rb ρ0 ρ2 with
      | .nx ρ2 => whlN (fun ρ => (rt ρ).bnd fun o ρ => .ok o.tru ρ) (fun ρ => rb ρ0 ρ) m ρ2
      | .ct ρ2 => whlN (fun ρ => (rt ρ).bnd fun o ρ => .ok o.tru ρ) (fun ρ => rb ρ0 ρ) m ρ2
      | .bk ρ2 => .nx ρ2
      | o => o) := q1
        cases hrb : rb ρ0 ρ2 with
        | nx ρ5 => rw [hrb] at q1; exact fun F' H' A' σ' a' => ⟨F', A', ρ5, a', q1⟩
        | ct ρ5 => rw [hrb] at q1; exact fun F' H' A' σ' a' => ⟨F', A', ρ5, a', q1⟩
        | bk ρ5 => rw [hrb] at q1; exact q1
        | rt w ρ5 => rw [hrb] at q1; exact q1
        | ex w ρ5 => rw [hrb] at q1; exact q1
        | bad => rw [hrb] at q1; exact q1
end
end KL
end
section
set_option Elab.async false
set_option linter.all false
set_option maxRecDepth 100000
/-! KA19: a list within a result is spoilt; slots that come to stand still. -/
namespace KL
open PySem PySem.Spec PyProof.Rows L2
section
variable {Θ : Pm} {g : Gm} {P pr : List Nat} {W W0 : WX} {X : Cx} {x : Expr} {B F F' F1 H H' H1 : Hp} {A A' A1 : Ad} {T : List Addr} {ρ ρ' ρ1 ρ2 : Rho} {σ σ' σ2 : L2.St} {a : Addr} {i : Nat} {o : Opd} {v : V} {pos : Pos} {D : Ends} {N : Ent} {top : Bool} {st : Stmt} {sts : List Stmt}
/-- a slot's own comes to stand still: no row of the text -/
theorem ss_frz {rr : Rho → Rho → Outc} (h : PSs X sts (tSt Θ top rr P pr W)) : PSs X sts (tSt Θ top (fun ρ0 ρ => ((readV i ρ).out fun _ ρ => .nx ρ).seq fun ρ => rr ρ0 ρ) P pr W) := by
  refine PSs.weak h fun D σ H ⟨N, F, A, ρ, ρ0, S0, ht, a, q⟩ => ?_
  replace q : Gs Θ P pr N W D (((readV i ρ).out fun _ ρ => .nx ρ).seq fun ρ => rr ρ0 ρ) := q
  unfold readV at q
  cases hs : ρ[i]? with
  | none => rw [hs] at q; exact q.elim
  | some s =>
    rw [hs] at q
    cases s with
    | un => exact q.elim
    | shr p => exact ⟨N, F, A, ρ, ρ0, S0, ht, a, q⟩
    | frz2 p => exact ⟨N, F, A, ρ, ρ0, S0, ht, a, q⟩
    | own p =>
      obtain ⟨F', y, hu, hr, S', f⟩ := a.1.frz1 hs
      exact ⟨N, F', _, _, ρ0, S0, ht, a.on S' f, q⟩
    | own2 p =>
      obtain ⟨F', y, hu, hr, S', f⟩ := a.1.frz2 hs
      exact ⟨N, F', _, _, ρ0, S0, ht, a.on S' f, q⟩
theorem unAll_get (n : Nat) (ρ : Rho) (j : Nat) : (unAll n ρ)[j]? = if j < n then ρ[j]? else (ρ[j]?).map fun _ => SV.un := by
  unfold unAll
  by_cases h : j < n
  · rw [if_pos h]
    by_cases hj : j < ρ.length
    · rw [List.getElem?_append_left (by rw [List.length_take]; omega), List.getElem?_take_of_lt h]
    · have e : ρ[j]? = none := by simp; omega
      rw [e, List.getElem?_eq_none]
      simp; omega
  · rw [if_neg h]
    by_cases hn : n ≤ ρ.length
    · rw [List.getElem?_append_right (by rw [List.length_take]; omega), List.getElem?_map, List.getElem?_drop, List.length_take]
      congr 2; omega
    · have e : ρ[j]? = none := by simp; omega
      rw [e, List.getElem?_eq_none]
      · rfl
      · simp; omega
theorem unAll_len (n : Nat) (ρ : Rho) : (unAll n ρ).length = ρ.length := by simp [unAll]; omega
theorem st_scrap {nm : Str} {n : Nat} {p p0 p2 sp apos ep : Pos} {k0 k2 : Nat} (htop : top = true) (hN : X.N[i]? = some nm) (hvi : Vis X.env.scope nm) (hd : (nm == ("__debug__" : Str)) = false) (hcd : (nm == ("__classdict__" : Str)) = false)
    (h0 : PE X (.Constant (.int 0) k0 p0) (tC (.int 0))) (h2 : PE X x (tC (.int 0))) (hix : PlainIx (.Constant (.int 0) k0 p0))
    (hbase : attributeBase (.Subscript (.Name nm p) (.Constant (.int 0) k0 p0) sp) "append" X.env (eval (.Subscript (.Name nm p) (.Constant (.int 0) k0 p0) sp) X.env) = eval (.Subscript (.Name nm p) (.Constant (.int 0) k0 p0) sp) X.env)
    (hfew : ((backTo pos (starEach [x] X.env)).all (fun x => !x.1) && (backToKw pos (keywordEach [] X.env)).all (fun x => x.1.isSome)
      && decide ([x].length + ([] : List Keyword).length + (if ([] : List Keyword).isEmpty then 0 else 1) < 30)) = true)
    (hline : (apos.endLine == pos.line) = true) (hse : starEach [x] X.env = (false, eval x X.env) :: starEach [] X.env) (hplain : (backTo pos (starEach [] X.env)).any (·.1) = false)
    (hsw : swapsWith (.Call (.Attribute (.Subscript (.Name nm p) (.Constant (.int 0) k0 p0) sp) "append" apos) [x] [] pos) none ep.line X.env = pure false) :
    PS X (.Expr (.Call (.Attribute (.Subscript (.Name nm p) (.Constant (.int 0) k0 p0) sp) "append" apos) [x] [] pos) ep) (tSt Θ top (fun ρ0 ρ => match ρ[i]? with
    | some (.frz2 (.lst (.lst xs :: _))) => if xs.length < big && decide (ρ.take n = ρ0.take n) && (ρ.take n).all isShr && (List.range n).all (fun j => pr.contains j) then .nx (unAll n ρ) else .bad
    | _ => .bad) P pr W) := by
  refine PS.weak (ps_expr (pe_bm PySem.F.plainAttrs_list PySem.F.slot_list_append (by rfl) mt_append (pe_ix ix_list (pe_var (i := i) hN hvi hd hcd) h0 hix) (pa_cons h2 pa_nil hse) hbase hfew hline hse hplain) hsw) fun D σ H ⟨N, F, A, ρ, ρ0, S0, ht, a, q⟩ => ?_
  obtain ⟨hBH, hρ⟩ := ht htop
  replace q : Gs Θ P pr N W D (match ρ[i]? with
    | some (.frz2 (.lst (.lst xs :: _))) => if xs.length < big && decide (ρ.take n = ρ0.take n) && (ρ.take n).all isShr && (List.range n).all (fun j => pr.contains j) then .nx (unAll n ρ) else .bad
    | _ => .bad) := q
  split at q
  · rename_i xs r hs
    split at q
    · rename_i hc
      simp only [Bool.and_eq_true, decide_eq_true_eq] at hc
      obtain ⟨⟨⟨hz, htk⟩, hsh⟩, hrg⟩ := hc
      obtain ⟨o, ho, _, b, hy, hr, hB, vs, hvs, hnew⟩ := a.1.at hs
      subst hy
      simp only [Rep] at hr
      obtain ⟨b', vs', e1, hvs', hr⟩ := hr
      cases e1
      rw [hvs] at hvs'; cases hvs'
      simp only [Reps, Rep] at hr
      obtain ⟨w, ws, rfl, ⟨c, zs, rfl, hcF, hcR⟩, _⟩ := hr
      obtain ⟨c', zs', e2, hcB, hcF'⟩ := hnew (.ref c) (by simp)
      cases e2
      refine ⟨_, ho, b, _, 0, .ref c, rfl, rfl, SqL.of (a.1.ext _ _ hvs), by simp [L2.atI, L2.ixN], (show tyV X.K "list" (.ref c) H from .inl ⟨rfl, zs, SqL.of (a.1.ext _ _ hcF)⟩), ?_⟩
      refine ⟨c, zs, _, rfl, rfl, a.1.ext _ _ hcF, by rw [← hcR.len]; exact hz, ?_⟩
      -- what was new is forgotten
      have hNc : N.H c = none := by rw [← hBH]; exact hcB
      have inF : ∀ d u, N.F d = some u → d ≠ c := fun d u q e => by
        subst e
        have := S0.ext _ _ q
        rw [hNc] at this; cases this
      have inH : ∀ d u, N.H d = some u → d ≠ c := fun d u q e => by subst e; rw [hNc] at q; cases q
      have sl : ∀ j, j < n → j ∈ pr := fun j hj => List.contains_iff_mem.mp (List.all_eq_true.mp hrg j (List.mem_range.mpr hj))
      have get0 : ∀ j, j < n → ρ[j]? = N.ρ[j]? := fun j hj => by
        have e := congrArg (fun l => l[j]?) htk
        simp only [List.getElem?_take_of_lt hj] at e
        rw [hρ]; exact e
      have shr : ∀ j s, j < n → ρ[j]? = some s → ∃ v, s = .shr v := fun j s hj e => by
        have m : s ∈ ρ.take n := List.mem_of_getElem? (i := j) (by rw [List.getElem?_take_of_lt hj]; exact e)
        have := List.all_eq_true.mp hsh s m
        cases s with
        | shr v => exact ⟨v, rfl⟩
        | _ => cases this
      refine (show nxS Θ P pr N D.nx (unAll n ρ) from q) N.F _ (fun _ => []) σ ⟨⟨fun d u q => ?_, by rw [unAll_len]; exact a.1.len, fun j s o q1 q2 => ?_, fun _ _ => rfl, fun _ => List.nodup_nil, (fun _ _ _ z => nomatch z), (fun _ _ _ z => nomatch z), upd_there a.1.mono, fun j v q => ?_⟩, ⟨Evl.Ex.refl _, fun d o q1 q2 q3 => ?_, (fun d ⟨_, z⟩ => nomatch z), (fun _ z => nomatch z), upd_there a.2.1.fre⟩, a.2.2⟩
      · rw [upd_ne (inF d u q)]
        exact a.1.ext _ _ (a.2.1.ext _ _ q)
      · rw [unAll_get] at q1
        split at q1
        · rename_i hj
          obtain ⟨v, rfl⟩ := shr j s hj q1
          rw [a.2.2.2 j (sl j hj)] at q2
          rw [get0 j hj] at q1
          obtain ⟨_, y, hy, hr⟩ := S0.ok j _ o q1 q2
          exact ⟨rfl, y, hy, hr⟩
        · cases hq : ρ[j]? with
          | none => rw [hq] at q1; cases q1
          | some s0 => rw [hq] at q1; cases q1; rfl
      · rw [unAll_get] at q
        split at q
        · rename_i hj
          obtain ⟨w, e⟩ := shr j _ hj q
          cases e
        · cases hq : ρ[j]? with
          | none => rw [hq] at q; cases q
          | some s0 => rw [hq] at q; cases q
      · obtain ⟨k1, k2⟩ := a.2.1.keep d o q1 q2 q3
        exact ⟨q1, by rw [upd_ne (inH d o q2)]; exact k2⟩
    · exact q.elim
  · exact q.elim
end
end KL
end
section
set_option Elab.async false
set_option linter.all false
set_option maxRecDepth 100000
/-! KA20: the text against the program's: what is looked at. -/
namespace KL
open PySem PySem.Spec PyProof.Rows L2
/-! ### looks -/
def glbB (sc : Scope) (nm : Str) : Bool := decide (sc.names.lookup nm = some .globalImplicit)
def locB (sc : Scope) (nm : Str) : Bool := decide (sc.names.lookup nm = some .local) || decide (sc.names.lookup nm = some .cell)
def visB (sc : Scope) (nm : Str) : Bool := locB sc nm || decide (sc.names.lookup nm = some .free)
def plainNm (nm : Str) : Bool := !(nm == ("__debug__" : Str)) && !(nm == ("__classdict__" : Str))
/-- slot i is that name, to be read -/
def nmB (N : List Str) (sc : Scope) (i : Nat) (nm : Str) : Bool := decide (N[i]? = some nm) && visB sc nm && plainNm nm
def starB : Expr → Bool
  | .Starred _ _ => true
  | _ => false
theorem visB_ok {sc : Scope} {nm : Str} (h : visB sc nm = true) : Vis sc nm := by
  unfold visB locB at h
  simp only [Bool.or_eq_true, decide_eq_true_eq] at h
  rcases h with (h | h) | h
  · exact .inl h
  · exact .inr (.inl h)
  · exact .inr (.inr h)
theorem locB_ok {sc : Scope} {nm : Str} (h : locB sc nm = true) : Loc sc nm := by
  unfold locB at h
  simp only [Bool.or_eq_true, decide_eq_true_eq] at h
  exact h
theorem plainNm_ok {nm : Str} (h : plainNm nm = true) : (nm == ("__debug__" : Str)) = false ∧ (nm == ("__classdict__" : Str)) = false := by
  unfold plainNm at h
  simp only [Bool.and_eq_true, Bool.not_eq_true'] at h
  exact h
theorem nmB_ok {N : List Str} {sc : Scope} {i : Nat} {nm : Str} (h : nmB N sc i nm = true) : N[i]? = some nm ∧ Vis sc nm ∧ (nm == ("__debug__" : Str)) = false ∧ (nm == ("__classdict__" : Str)) = false := by
  unfold nmB at h
  simp only [Bool.and_eq_true, decide_eq_true_eq] at h
  exact ⟨h.1.1, visB_ok h.1.2, plainNm_ok h.2⟩
theorem star_one {x : Expr} {es : List Expr} {env : Env} (h : starB x = false) : starEach (x :: es) env = (false, eval x env) :: starEach es env := by
  cases x <;> first | rfl | cases h
theorem star_all : ∀ {es : List Expr} {env : Env}, es.all (fun x => !starB x) = true → starEach es env = es.map fun x => (false, eval x env)
  | [], _, _ => rfl
  | x :: es, env, h => by
    simp only [List.all_cons, Bool.and_eq_true, Bool.not_eq_true'] at h
    rw [star_one h.1, star_all h.2]; rfl
theorem star_any {es : List Expr} {env : Env} {pos : Pos} (h : es.all (fun x => !starB x) = true) : (backTo pos (starEach es env)).any (·.1) = false := by
  rw [star_all h]
  unfold backTo
  induction es with
  | nil => rfl
  | cons x es ih =>
    simp only [List.all_cons, Bool.and_eq_true] at h
    simp only [List.map_cons, List.any_cons, ih h.2, Bool.or_false]
theorem star_few {es : List Expr} {env : Env} {pos : Pos} (h : es.all (fun x => !starB x) = true) (hl : es.length < 29) : ((backTo pos (starEach es env)).all (fun x => !x.1) && (backToKw pos (keywordEach [] env)).all (fun x => x.1.isSome)
      && decide (es.length + ([] : List Keyword).length + (if ([] : List Keyword).isEmpty then 0 else 1) < 30)) = true := by
  have e : (backTo pos (starEach es env)).all (fun x => !x.1) = true := by
    rw [star_all h]
    unfold backTo
    induction es with
    | nil => rfl
    | cons x es ih =>
      simp only [List.all_cons, Bool.and_eq_true] at h
      simp only [List.length_cons] at hl
      simp only [List.map_cons, List.all_cons, ih h.2 (by omega), Bool.not_false, Bool.and_self]
  rw [e]
  have e2 : (backToKw pos (keywordEach [] env)).all (fun x => x.1.isSome) = true := rfl
  rw [e2]
  simp; omega
/-- the object of a method call is read as it stands -/
def baseB : Expr → Bool
  | .Call _ _ _ _ => false
  | _ => true
theorem base_ok {o : Expr} {attr : Str} {env : Env} {whole : Sem Value} (h : baseB o = true) : attributeBase o attr env whole = whole := by
  cases o <;> first | rfl | cases h
def plainIxB : Expr → Bool
  | .Slice _ _ _ _ => false
  | _ => true
theorem plainIx_ok {b : Expr} (h : plainIxB b = true) : PlainIx b := by
  intro o i
  cases b <;> first | rfl | cases h
def setB : Expr → Bool
  | .Set _ _ _ => true
  | _ => false
theorem fold_ok {e : Expr} {env : Env} (h : setB e = false) : ∀ x, foldedSetIterable e env x = pure x := by
  intro x
  cases e <;> first | rfl | cases h
theorem mark_ok {op : CmpOp} {b : Expr} (h : setB b = false) : behindInMarks op b = false := by
  cases b <;> first | rfl | cases h
/-- a test that is its value's truth -/
def tstB : Expr → Bool
  | .UnaryOp .Not _ _ => false
  | .BoolOp _ _ _ => false
  | .IfExp _ _ _ _ => false
  | .Compare _ _ _ _ => true
  | _ => true
section
variable {Θ : Pm} {g : Gm} {P : List Nat} {W : WX} {X : Cx} {x : Expr} {B F F' F1 H H' H1 : Hp} {A A' A1 : Ad} {T : List Addr} {ρ ρ' : Rho} {σ : L2.St} {a : Addr} {i : Nat} {o : Opd} {v : V} {pos : Pos}
/-! ### slices -/
def tOi (Θ : Pm) (r : Rho → Rr (Option Int)) (P : List Nat) (W : WX) : TO := fun σ H Q => ∃ B F A ρ, Sta Θ.K P B F H A ρ σ ∧ Go (r ρ) (fun k ρ' => ∀ F' H' A', Sta Θ.K P B F' H' A' ρ' σ → Frm F H A F' H' A' [] → Q k H') (exE Θ P B F H A σ W)
def oiR (r : Rho → Rr Opd) (ρ : Rho) : Rr (Option Int) := (r ρ).bnd fun x ρ => match x.get ρ with
    | some (.int i) => .ok (some i) ρ
    | _ => .bad
theorem PO.weak {e : Option Expr} {t t' : TO} (h : PO X e t) (w : ∀ σ H Q, t' σ H Q → t σ H Q) : PO X e t' := ⟨fun pins s σ H Q I q => h.run pins s σ H Q I (w _ _ _ q)⟩
theorem oi_no : PO X none (tOi Θ (fun ρ => .ok none ρ) P W) := PO.weak po_none fun σ H Q ⟨B, F, A, ρ, S, q⟩ => q F H A S (Frm.refl _ _ _)
theorem oi_som {r : Rho → Rr Opd} (h : PE X x (tO Θ r P W)) : PO X (some x) (tOi Θ (oiR r) P W) := by
  refine PO.weak (po_some h) fun σ H Q ⟨B, F, A, ρ, S, q⟩ => ?_
  have q := Go.bnd q
  refine ⟨B, F, A, ρ, S, q.mono (fun o ρ' k y F' H' A' S' f r => ?_) fun _ _ k => k⟩
  cases hg : o.get ρ' with
  | none => rw [hg] at k; exact k.elim
  | some p =>
    rw [hg] at k
    have t := ResO.tp r (Evl.Ex.refl _) S' hg
    cases p with
    | int n => exact ⟨n, tp_int t, k F' H' A' S' f⟩
    | _ => exact k.elim
def slV (ra : Rho → Rr Opd) (rl rh : Rho → Rr (Option Int)) (ρ : Rho) : Rr SV := (ra ρ).bnd fun x ρ => (rl ρ).bnd fun l ρ => (rh ρ).bnd fun h ρ => match x.get ρ with
    | some x => Rr.of (slcPV x l h) ρ
    | none => .bad
theorem slc_ok {lo hi : Option Expr} {p2 : Pos} {ra : Rho → Rr Opd} {rl rh : Rho → Rr (Option Int)} (hK : X.K = Θ.K) (ha : PE X x (tO Θ ra P W)) (hl : PO X lo (tOi Θ rl P W)) (hh : PO X hi (tOi Θ rh P W)) :
    PE X (.Subscript x (.Slice lo hi none p2) pos) (tG Θ (vR (slV ra rl rh)) P W) := by
  refine PE.weak (pe_slice (sl_ok hK) ha hl hh) fun σ H Q ⟨B, F, A, ρ, S, q⟩ => ?_
  have q := Go.bnd (Go.bnd q)
  refine ⟨B, F, A, ρ, S, q.mono (fun o ρ1 k1 y F1 H1 A1 S1 f1 r1 => ?_) fun _ _ k => k⟩
  have k1 := Go.bnd k1
  refine ⟨B, F1, A1, ρ1, S1, k1.mono (fun l ρ2 k2 F2 H2 A2 S2 f2 => ?_) fun p ρ2 k c d F2 H2 A2 S2 f2 e2 => k c d F2 H2 A2 S2 (f1.trans f2) e2⟩
  have k2 := Go.bnd k2
  refine ⟨B, F2, A2, ρ2, S2, k2.mono (fun h ρ3 k3 F3 H3 A3 S3 f3 => ?_) fun p ρ3 k c d F3 H3 A3 S3 f3 e3 => k c d F3 H3 A3 S3 (f1.trans (f2.trans f3)) e3⟩
  cases hg : o.get ρ3 with
  | none => rw [hg] at k3; exact k3.elim
  | some p =>
    rw [hg] at k3
    obtain ⟨s, hs, k3⟩ := Go.of k3
    exact ⟨F3, p, s, S3.ext, ResO.tp r1 (f2.ext.trans f3.ext) S3 hg, hs, Mk.of S3 (f1.trans (f2.trans f3)) k3⟩
end
end KL
end
section
set_option Elab.async false
set_option linter.all false
set_option maxRecDepth 100000
/-! KA21: the text against the program's: the look. -/
namespace KL
open PySem PySem.Spec PyProof.Rows L2
def bopO : Bop → Operator
  | .add => .Add | .sub => .Sub | .mul => .Mult | .mod => .Mod | .fdiv => .FloorDiv | .pow => .Pow
def cstB : PV → Const → Bool
  | .non, .none => true
  | .bl b, .bool c => b == c
  | .int i, .int j => decide (i = j)
  | .str s, .str t => decide (s = t)
  | _, _ => false
def iskB : PV → Const → Bool
  | .non, .none => true
  | .bl b, .bool c => b == c
  | _, _ => false
/-- may be asked for its truth -/
def tstOk : Xp → Bool
  | .ife _ _ _ => false
  | .band es => tstOks es
  | .bor es => tstOks es
  | .bnot a => true
  | _ => true
where tstOks : Xps → Bool
  | .nil => true
  | .cons e es => tstOk e && tstOks es
  | .star _ _ => false
/-- a built-in's name -/
def bltNm : Bi → Option (Str × Bool)
  | .len => some ("len", false) | .sorted => some ("sorted", false) | .list => some ("list", true) | .tuple => some ("tuple", true)
  | .abs => some ("abs", false) | .int => some ("int", true) | .all => some ("all", false) | .any => some ("any", false)
  | _ => none
structure Cfg where
  N : List Str
  defs : List (Str × Nat)
  lent : Nat → Option Nat
  excs : List (Str × Str) := []
def ownP (N : List Str) (own : List Nat) : List (Str × Nat) := own.map fun i => (N[i]?.getD (Str.ofString ""), i)
theorem ownP_snd (N : List Str) (own : List Nat) : (ownP N own).map (·.2) = own := by
  unfold ownP; rw [List.map_map]; exact List.map_id'' (fun _ => rfl) own
/-- names as targets -/
def nmsB (N : List Str) (sc : Scope) : List Nat → List Expr → Bool
  | [], [] => true
  | i :: is, x :: xs => (match x with | .Name nm _ => decide (N[i]? = some nm) && decide (sc.names.lookup nm = some .local) | _ => false) && nmsB N sc is xs
  | _, _ => false
def tgB (N : List Str) (sc : Scope) : Tgt → Expr → Bool
  | .one i, x => (match x with | .Name nm _ => decide (N[i]? = some nm) && decide (sc.names.lookup nm = some .local) | _ => false)
  | .many is, x => (match x with | .Tuple xs _ _ => nmsB N sc is xs | _ => false)
def subB (xs ys : List Nat) : Bool := xs.all fun x => ys.contains x
def isTup : Expr → Bool
  | .Tuple _ _ _ => true
  | _ => false
section
variable (G : Cfg)
mutual
def cE (sc : Scope) : Xp → Expr → Bool
  | .var i, ex => (match ex with | .Name nm _ => nmB G.N sc i nm | _ => false)
  | .cst c, ex => (match ex with | .Constant k _ _ => cstB c k | _ => false)
  | .lst _ es, ex => (match ex with | .List xs _ => cEs sc es xs | _ => false)
  | .tup es, ex => (match ex with | .Tuple xs _ _ => cEs sc es xs | _ => false)
  | .bop o a b, ex => (match ex with | .BinOp x op y _ => decide (op = bopO o) && cE sc a x && cE sc b y | _ => false)
  | .cmp o a b, ex => (match ex with | .Compare x [op] [y] _ => decide (op = cmpOp o) && !setB y && cE sc a x && cE sc b y | _ => false)
  | .isk n a c, ex => (match ex with | .Compare x [op] [.Constant k _ _] _ => decide (op = if n then .IsNot else .Is) && iskB c k && cE sc a x | _ => false)
  | .band es, ex => (match ex with | .BoolOp .And xs _ => cBs sc es xs | _ => false)
  | .bor es, ex => (match ex with | .BoolOp .Or xs _ => cBs sc es xs | _ => false)
  | .bnot a, ex => (match ex with | .UnaryOp .Not x _ => cE sc a x && tstOk a | _ => false)
  | .ife t a b, ex => (match ex with | .IfExp x y z _ => cE sc t x && tstOk t && cE sc a y && cE sc b z | _ => false)
  | .idx a i, ex => (match ex with | .Subscript x y _ => plainIxB y && cE sc a x && cE sc i y | _ => false)
  | .slc a lo hi, ex => (match ex with | .Subscript x (.Slice l h none _) _ => cE sc a x && cO sc lo l && cO sc hi h | _ => false)
  | .call _ f es, ex => (match ex with | .Call (.Name nm _) xs [] _ => decide (G.defs[f]? = some (nm, xs.length)) && glbB sc nm && plainNm nm && !xs.isEmpty && xs.all (fun x => !starB x) && cAs sc (G.lent f) 0 es xs | _ => false)
  | .blt f es, ex => (match f with
    | .isi t => (match ex with | .Call (.Name nm _) [x, .Name nm2 _] [] _ => decide (nm = Str.ofString "isinstance") && decide (nm2 = Str.ofString (tyN t)) && glbB sc nm && glbB sc nm2 && !starB x && cOs sc es [x] | _ => false)
    | .listrng2 => (match ex with | .Call (.Name nm _) [.Call (.Name nm2 _) [x, y] [] _] [] _ => decide (nm = Str.ofString "list") && decide (nm2 = Str.ofString "range") && glbB sc nm && glbB sc nm2 && !starB x && !starB y && cOs sc es [x, y] | _ => false)
    | .listrev => (match ex with | .Call (.Name nm _) [.Call (.Name nm2 _) [x] [] _] [] _ => decide (nm = Str.ofString "list") && decide (nm2 = Str.ofString "reversed") && glbB sc nm && glbB sc nm2 && !starB x && cOs sc es [x] | _ => false)
    | f => (match ex with | .Call (.Name nm _) xs [] _ => decide ((bltNm f).map (·.1) = some nm) && glbB sc nm && !xs.isEmpty && xs.all (fun x => !starB x) && cOs sc es xs | _ => false))
  | .mth k o es, ex => (match k with
    | .index => (match ex with | .Call (.Attribute x nm ap) xs [] cp => decide (nm = Str.ofString "index") && baseB x && (ap.endLine == cp.line) && decide (xs.length < 29) && !xs.isEmpty && xs.all (fun x => !starB x) && cE sc o x && cOs sc es xs | _ => false)
    | _ => false)
  | .lcm _ it tg own t e, ex => (match ex with | .ListComp elt [⟨tgE, itE, ifs, 0⟩] scope _ => blkC G.N sc scope (ownP G.N own) && subB (tgSlots tg) own && tgB G.N (relS scope sc) tg tgE && !setB itE && cW sc (isTup tgE) it itE && cIf (relS scope sc) t ifs && cE (relS scope sc) e elt | _ => false)
  | .lc2 it tg it2 tg2 own own2 t e, ex => (match ex with | .ListComp elt [⟨tgE, itE, [], 0⟩, ⟨tgE2, itE2, ifs, 0⟩] scope _ => blkC G.N sc scope (ownP G.N own) && subB (tgSlots tg) own && subB (tgSlots tg2) own2 && subB own2 own && tgB G.N (relS scope sc) tg tgE && tgB G.N (relS scope sc) tg2 tgE2 && !setB itE && !setB itE2 && cW sc (isTup tgE) it itE && cW (relS scope sc) (isTup tgE2) it2 itE2 && cIf (relS scope sc) t ifs && cE (relS scope sc) e elt | _ => false)
  | .dcm it tg own k v, ex => (match ex with | .DictComp kx vx [⟨tgE, itE, [], 0⟩] scope _ => blkC G.N sc scope (ownP G.N own) && subB (tgSlots tg) own && tgB G.N (relS scope sc) tg tgE && !setB itE && cW sc (isTup tgE) it itE && cE (relS scope sc) k kx && cE (relS scope sc) v vx | _ => false)
  | .xfld _ _, _ => false
def cEs (sc : Scope) : Xps → List Expr → Bool
  | .nil, [] => true
  | .cons e es, x :: xs => !starB x && cE sc e x && cEs sc es xs
  | .star e es, x :: xs => (match x with | .Starred y _ => cE sc e y | _ => false) && cEs sc es xs
  | _, _ => false
def cBs (sc : Scope) : Xps → List Expr → Bool
  | .cons e .nil, [x] => cE sc e x
  | .cons e es, x :: y :: xs => cE sc e x && cBs sc es (y :: xs)
  | _, _ => false
def cOs (sc : Scope) : Xps → List Expr → Bool
  | .nil, [] => true
  | .cons e es, x :: xs => cE sc e x && cOs sc es xs
  | _, _ => false
def cAs (sc : Scope) (m : Option Nat) : Nat → Xps → List Expr → Bool
  | _, .nil, [] => true
  | j, .cons e es, x :: xs => cE sc e x && cAs sc m (j + 1) es xs
  | _, _, _ => false
def cO (sc : Scope) : Xpo → Option Expr → Bool
  | .no, none => true
  | .som e, some x => cE sc e x
  | _, _ => false
def cIf (sc : Scope) : Xpo → List Expr → Bool
  | .no, [] => true
  | .som e, [x] => cE sc e x && tstOk e
  | _, _ => false
def cW (sc : Scope) (tup : Bool) : Wk → Expr → Bool
  | .seq e, x => cE sc e x
  | .rng1 a, x => (match x with | .Call (.Name nm _) [y] [] _ => decide (nm = Str.ofString "range") && glbB sc nm && !starB y && cE sc a y | _ => false)
  | .rng2 a b, x => (match x with | .Call (.Name nm _) [y, z] [] _ => decide (nm = Str.ofString "range") && glbB sc nm && !starB y && !starB z && cE sc a y && cE sc b z | _ => false)
  | .enm a, x => (match x with | .Call (.Name nm _) [y] [] _ => decide (nm = Str.ofString "enumerate") && tup && glbB sc nm && !starB y && cE sc a y | _ => false)
end
end
/-! ### what the context gives -/
def bltAll : List Str := ["len", "sorted", "list", "tuple", "abs", "int", "all", "any", "isinstance", "range", "reversed", "enumerate", "bool", "str", "dict"]
/-- an own exception class with one field -/
structure ExcG (Θ : Pm) (X : Cx) (c : Nat) (nm fld : Str) : Prop where
  cf : Θ.cf c = fld
  mg : X.mg nm = some (.ref (Θ.ca c))
  T : OexC X.K (Θ.ca c)
  ini : ∃ fI fd ps, PySem.W.findIn X.K (.ref (Θ.ca c)) "__init__" = some (some (.ref fI)) ∧ PySem.W.typeIn X.K (.ref fI) = some (.type "function") ∧ FnOk X.prog X.w X.K X.mg X.base (L2.CX X.prog X.w) 1 fI fd ps (spXI X.K (Θ.ca c) fld) ∧ Binds X.K fd ps []
  xf : XfC X.K (Θ.ca c)
  no : PySem.W.findIn X.K (.ref (Θ.ca c)) fld = some none
  ec : ExcC X.K (Θ.ca c)
  exm : PySem.W.exmOne X.K (.ref (Θ.ca c)) (.ref (Θ.ca c)) = some true
structure Glb (Θ : Pm) (g : Gm) (G : Cfg) (X : Cx) : Prop where
  hK : X.K = Θ.K
  calm : X.calm = true
  units : X.A.units + 65 < cLine
  nd : X.N.Nodup
  hN : X.N = G.N
  blt : ∀ n ∈ bltAll, X.mg n = none
  fn : ∀ f nm n, G.defs[f]? = some (nm, n) → ∃ (k : Nat) (fa : Addr) (fd : FuncData) (ps : List Str), X.mg nm = some (.ref fa) ∧ PySem.W.keepIn X.K (.ref fa) = true ∧ Binds X.K fd ps [] ∧ ps.length = n ∧ FnOk X.prog X.w X.K X.mg X.base (L2.CX X.prog X.w) k fa fd ps (spG Θ g f n) ∧ Room k X.A
  lent : ∀ f, G.lent f = g.lent f
  back : ∀ f j v bk as, g.call f as = .ok v bk → g.lent f = some j → ∀ w, bk ≠ .own2 w
  backx : ∀ f j v bk as, g.call f as = .exc v bk → g.lent f = some j → ∀ w, bk ≠ .own2 w
  exc : ∀ c nm fld, G.excs[c]? = some (nm, fld) → ExcG Θ X c nm fld
  kit : ∀ c c2 p q, G.excs[c]? = some p → G.excs[c2]? = some q → PySem.W.kitOne X.K (.ref (Θ.ca c)) (.ref (Θ.ca c2)) = some (decide (c2 = c))
  room : Room 2 X.A
theorem Glb.blk {Θ : Pm} {g : Gm} {G : Cfg} {X : Cx} (h : Glb Θ g G X) (s : Shared) (H : Hp) (scope : Scope) (cenv : Env) (fp : List Addr) : Glb Θ g G (X.blk s H scope cenv fp) :=
  ⟨h.hK, h.calm, h.units, h.nd, h.hN, h.blt, h.fn, h.lent, h.back, h.backx, fun c nm fld e => ⟨(h.exc c nm fld e).cf, (h.exc c nm fld e).mg, (h.exc c nm fld e).T, (h.exc c nm fld e).ini, (h.exc c nm fld e).xf, (h.exc c nm fld e).no, (h.exc c nm fld e).ec, (h.exc c nm fld e).exm⟩, h.kit, h.room⟩
def W0 : WX := fun _ _ _ _ => False
theorem takes_blk {X : Cx} {s : Shared} {H : Hp} {scope : Scope} {cenv : Env} {fp : List Addr} : Takes (X.blk s H scope cenv fp) W0 := fun u s' ⟨a, B, sI, pins, σ, H, cls, d, e, I, nb, up, sky, na, os, ag, w⟩ => w.elim
end KL
end
section
set_option Elab.async false
set_option linter.all false
set_option maxRecDepth 100000
/-! KA22: what passes the look reads as the evaluator says. -/
namespace KL
open PySem PySem.Spec PyProof.Rows L2
theorem finM_imm {m : Md} {r : Rr SV} {o : Opd} {ρ : Rho} (h : finM m r = .ok o ρ) : ∃ s, o = .imm s := by
  cases r with
  | bad => cases h
  | exc _ _ => cases h
  | ok v ρ' =>
    cases m with
    | val => cases h; exact ⟨_, rfl⟩
    | opd => cases h; exact ⟨_, rfl⟩
    | tst =>
      have h : Rr.of ((truthP v.val).map fun b => Opd.imm (.shr (.bl b))) ρ' = .ok o ρ := h
      cases hb : truthP v.val with
      | none => rw [hb] at h; cases h
      | some b => rw [hb] at h; cases h; exact ⟨_, rfl⟩
section
variable {g : Gm}
mutual
theorem val_imm : ∀ (e : Xp) {ρ ρ' : Rho} {o : Opd}, evalE g .val e ρ = .ok o ρ' → ∃ s, o = .imm s
  | .var i, ρ, ρ', o, h => by
    simp only [evalE, askV] at h
    cases hr : readV i ρ with
    | bad => rw [hr] at h; cases h
    | exc _ _ => rw [hr] at h; cases h
    | ok v ρ2 => rw [hr] at h; cases h; exact ⟨_, rfl⟩
  | .cst c, ρ, ρ', o, h => by simp only [evalE] at h; exact finM_imm h
  | .lst _ _, ρ, ρ', o, h => by simp only [evalE] at h; exact finM_imm h
  | .tup _, ρ, ρ', o, h => by simp only [evalE] at h; exact finM_imm h
  | .bop _ _ _, ρ, ρ', o, h => by simp only [evalE] at h; exact finM_imm h
  | .cmp _ _ _, ρ, ρ', o, h => by simp only [evalE] at h; exact finM_imm h
  | .isk _ _ _, ρ, ρ', o, h => by simp only [evalE] at h; exact finM_imm h
  | .band es, ρ, ρ', o, h => by simp only [evalE] at h; exact and_imm es h
  | .bor es, ρ, ρ', o, h => by simp only [evalE] at h; exact or_imm es h
  | .bnot a, ρ, ρ', o, h => by simp only [evalE] at h; exact finM_imm h
  | .ife t a b, ρ, ρ', o, h => by
    simp only [evalE] at h
    cases hr : evalE g .tst t ρ with
    | bad => rw [hr] at h; cases h
    | exc _ _ => rw [hr] at h; cases h
    | ok v ρ2 =>
      rw [hr] at h
      replace h : (if v.tru = true then finM .val ((evalE g .val a ρ2).bnd fun o ρ => .ok o.sv ρ) else finM .val ((evalE g .val b ρ2).bnd fun o ρ => .ok o.sv ρ)) = .ok o ρ' := h
      split at h <;> exact finM_imm h
  | .idx _ _, ρ, ρ', o, h => by simp only [evalE] at h; exact finM_imm h
  | .slc _ _ _, ρ, ρ', o, h => by simp only [evalE] at h; exact finM_imm h
  | .call _ _ _, ρ, ρ', o, h => by simp only [evalE] at h; exact finM_imm h
  | .blt _ _, ρ, ρ', o, h => by simp only [evalE] at h; exact finM_imm h
  | .mth _ _ _, ρ, ρ', o, h => by simp only [evalE] at h; exact finM_imm h
  | .lcm _ _ _ _ _ _, ρ, ρ', o, h => by simp only [evalE] at h; exact finM_imm h
  | .lc2 _ _ _ _ _ _ _ _, ρ, ρ', o, h => by simp only [evalE] at h; exact finM_imm h
  | .dcm _ _ _ _ _, ρ, ρ', o, h => by simp only [evalE] at h; exact finM_imm h
  | .xfld _ _, ρ, ρ', o, h => by simp only [evalE] at h; exact finM_imm h
theorem and_imm : ∀ (es : Xps) {ρ ρ' : Rho} {o : Opd}, evalAnd g .val es ρ = .ok o ρ' → ∃ s, o = .imm s
  | .nil, ρ, ρ', o, h => by simp only [evalAnd] at h; cases h
  | .cons e .nil, ρ, ρ', o, h => by simp only [evalAnd] at h; exact val_imm e h
  | .cons e (.cons e2 es), ρ, ρ', o, h => by
    simp only [evalAnd] at h
    cases hr : evalE g .val e ρ with
    | bad => rw [hr] at h; cases h
    | exc _ _ => rw [hr] at h; cases h
    | ok v ρ2 =>
      rw [hr] at h
      replace h : (match v.sv.val with
        | .bl true => evalAnd g .val (.cons e2 es) ρ2
        | .bl false => .ok (.imm (.shr (.bl false))) ρ2
        | _ => .bad) = .ok o ρ' := h
      split at h
      · exact and_imm (.cons e2 es) h
      · cases h; exact ⟨_, rfl⟩
      · cases h
  | .cons e (.star e2 es), ρ, ρ', o, h => by
    simp only [evalAnd] at h
    cases hr : evalE g .val e ρ with
    | bad => rw [hr] at h; cases h
    | exc _ _ => rw [hr] at h; cases h
    | ok v ρ2 =>
      rw [hr] at h
      replace h : (match v.sv.val with
        | .bl true => (.bad : Rr Opd)
        | .bl false => .ok (.imm (.shr (.bl false))) ρ2
        | _ => .bad) = .ok o ρ' := h
      split at h
      · cases h
      · cases h; exact ⟨_, rfl⟩
      · cases h
  | .star _ _, ρ, ρ', o, h => by simp only [evalAnd] at h; cases h
theorem or_imm : ∀ (es : Xps) {ρ ρ' : Rho} {o : Opd}, evalOr g .val es ρ = .ok o ρ' → ∃ s, o = .imm s
  | .nil, ρ, ρ', o, h => by simp only [evalOr] at h; cases h
  | .cons e .nil, ρ, ρ', o, h => by simp only [evalOr] at h; exact val_imm e h
  | .cons e (.cons e2 es), ρ, ρ', o, h => by
    simp only [evalOr] at h
    cases hr : evalE g .val e ρ with
    | bad => rw [hr] at h; cases h
    | exc _ _ => rw [hr] at h; cases h
    | ok v ρ2 =>
      rw [hr] at h
      replace h : (match v.sv.val with
        | .bl false => evalOr g .val (.cons e2 es) ρ2
        | .bl true => .ok (.imm (.shr (.bl true))) ρ2
        | _ => .bad) = .ok o ρ' := h
      split at h
      · exact or_imm (.cons e2 es) h
      · cases h; exact ⟨_, rfl⟩
      · cases h
  | .cons e (.star e2 es), ρ, ρ', o, h => by
    simp only [evalOr] at h
    cases hr : evalE g .val e ρ with
    | bad => rw [hr] at h; cases h
    | exc _ _ => rw [hr] at h; cases h
    | ok v ρ2 =>
      rw [hr] at h
      replace h : (match v.sv.val with
        | .bl false => (.bad : Rr Opd)
        | .bl true => .ok (.imm (.shr (.bl true))) ρ2
        | _ => .bad) = .ok o ρ' := h
      split at h
      · cases h
      · cases h; exact ⟨_, rfl⟩
      · cases h
  | .star _ _, ρ, ρ', o, h => by simp only [evalOr] at h; cases h
end
end
end KL
end
section
set_option Elab.async false
set_option linter.all false
set_option maxRecDepth 100000
/-! KA23: what passes the look reads as the evaluator says: expressions. -/
namespace KL
open PySem PySem.Spec PyProof.Rows L2
theorem bopO_eq (o : Bop) : bopO o = (match o with | .add => .Add | .sub => .Sub | .mul => .Mult | .mod => .Mod | .fdiv => .FloorDiv | .pow => .Pow) := by cases o <;> rfl
abbrev E3 (Θ : Pm) (g : Gm) (P : List Nat) (e : Xp) (X : Cx) (W : WX) (x : Expr) : Prop := PE X x (tG Θ (evalE g .val e) P W) ∧ PE X x (tO Θ (evalE g .opd e) P W) ∧ (tstOk e = true → PT X x (tT Θ (evalE g .tst e) P W))
theorem fin3 {Θ : Pm} {g : Gm} {P : List Nat} {e : Xp} {X : Cx} {W : WX} {x : Expr} {r : Rho → Rr SV} (hK : X.K = Θ.K) (h : PE X x (tG Θ (vR r) P W)) (he : ∀ whole, isTrue x X.env whole = (do let v ← whole; standAt x.pos; holding [v] (truthy v))) (ev : ∀ m, evalE g m e = fun ρ => finM m (r ρ)) : E3 Θ g P e X W x := by
  have h1 : PE X x (tG Θ (evalE g .val e) P W) := by rw [ev]; exact h
  have h2 : PE X x (tG Θ (evalE g .opd e) P W) := by rw [ev]; exact h
  exact ⟨h1, PE.opd h2, fun _ => by rw [ev]; exact pt_fin hK h he⟩
theorem cst_rep {K : PySem.W.Frag} {F : Hp} {c : PV} {k : Const} (h : cstB c k = true) {X : Cx} {j : Nat} {pos : Pos} : ∃ w, PE X (.Constant k j pos) (tC w) ∧ Rep K F c w := by
  cases c <;> cases k <;> first | cases h | skip
  · exact ⟨.non, pe_non, by simp [Rep]⟩
  · rename_i b c
    have e : b = c := by simpa [cstB] using h
    subst e
    exact ⟨.bl b, pe_bl, by simp [Rep]⟩
  · rename_i i j
    have e : i = j := by simpa [cstB] using h
    subst e
    exact ⟨.int i, pe_int, by simp [Rep]⟩
  · rename_i i j
    have e : i = j := by simpa [cstB] using h
    subst e
    exact ⟨.str i, pe_str, by simp [Rep]⟩
theorem isk_ok {c : PV} {k : Const} (h : iskB c k = true) : (c = .non ∧ k = .none) ∨ ∃ b, c = .bl b ∧ k = .bool b := by
  cases c <;> cases k <;> first | cases h | skip
  · exact .inl ⟨rfl, rfl⟩
  · rename_i b c
    have e : b = c := by simpa [iskB] using h
    subst e
    exact .inr ⟨b, rfl, rfl⟩
theorem testB {Θ : Pm} {P : List Nat} {W : WX} {r : Rho → Rr SV} {σ : L2.St} {H : Hp} {Q : Bool → Hp → Prop} (hb : ∀ ρ s ρ', r ρ = .ok s ρ' → ∃ b, s = .shr (.bl b)) (q : tT Θ (fun ρ => finM .tst (r ρ)) P W σ H Q) : tG Θ (vR r) P W σ H (fun x H' => ∃ k, x = .bl k ∧ Q k H') := by
  obtain ⟨B, F, A, ρ, S, q⟩ := q
  refine ⟨B, F, A, ρ, S, ?_⟩
  have q := Go.bnd q
  unfold vR
  cases hr : r ρ with
  | bad => rw [hr] at q; exact q.elim
  | exc p ρ' => rw [hr] at q; exact q
  | ok s ρ' =>
    rw [hr] at q
    obtain ⟨b, rfl⟩ := hb _ _ _ hr
    show okE Θ P B F H A σ _ (.imm (.shr (.bl b))) ρ'
    intro y F' H' A' T S' f t res
    obtain ⟨rfl, res⟩ := res
    have hy : y = .bl b := by simpa [Rep] using res
    exact ⟨b, hy, (show okT Θ P B F H A σ Q (.imm (.shr (.bl b))) ρ' from q) F' H' A' S' f⟩
theorem is_any {Θ : Pm} {P : List Nat} {W : WX} {X : Cx} {ra : Rho → Rr Opd} {n : Bool} {c : PV} {k : Const} {kk : Nat} {pos' : Pos} (hc : (c = .non ∧ k = .none) ∨ ∃ b, c = .bl b ∧ k = .bool b) :
    ∃ (R : R2) (w : V), OpR X (compareOp (if n then .IsNot else .Is)) R ∧ PE X (.Constant k kk pos') (tC w) ∧ ∀ σ H Q, tG Θ (vR (r1V (isF n c) ra)) P W σ H Q → tOp R (tO Θ ra P W) (tC w) σ H Q := by
  rcases hc with ⟨rfl, rfl⟩ | ⟨b, rfl, rfl⟩
  · cases n with
    | false =>
      refine ⟨_, _, op_isN, pe_non, fun σ H Q q => ?_⟩
      obtain ⟨B, F, A, ρ, S, q⟩ := t1V q
      refine ⟨B, F, A, ρ, S, q.mono (fun o ρ' h y F' H' A' S' f r => ?_) fun _ _ k => k⟩
      obtain ⟨F2, p, s, e, t, hs, m⟩ := h y F' H' A' S' f r
      cases hs
      refine ⟨rfl, ?_⟩
      rw [dec_iff (tp_non t)]
      exact m.1 _ rep_bl ⟨_, rfl⟩
    | true =>
      refine ⟨_, _, op_notN, pe_non, fun σ H Q q => ?_⟩
      obtain ⟨B, F, A, ρ, S, q⟩ := t1V q
      refine ⟨B, F, A, ρ, S, q.mono (fun o ρ' h y F' H' A' S' f r => ?_) fun _ _ k => k⟩
      obtain ⟨F2, p, s, e, t, hs, m⟩ := h y F' H' A' S' f r
      cases hs
      refine ⟨rfl, ?_⟩
      rw [dec_iff (tp_non t)]
      exact m.1 _ rep_bl ⟨_, rfl⟩
  · cases n with
    | false =>
      refine ⟨_, _, op_isBk, pe_bl, fun σ H Q q => ?_⟩
      obtain ⟨B, F, A, ρ, S, q⟩ := t1V q
      refine ⟨B, F, A, ρ, S, q.mono (fun o ρ' h y F' H' A' S' f r => ?_) fun _ _ k => k⟩
      obtain ⟨F2, p, s, e, t, hs, m⟩ := h y F' H' A' S' f r
      cases hs
      refine ⟨b, rfl, ?_⟩
      rw [dec_iff (tp_bl t)]
      exact m.1 _ rep_bl ⟨_, rfl⟩
    | true =>
      refine ⟨_, _, op_notBk, pe_bl, fun σ H Q q => ?_⟩
      obtain ⟨B, F, A, ρ, S, q⟩ := t1V q
      refine ⟨B, F, A, ρ, S, q.mono (fun o ρ' h y F' H' A' S' f r => ?_) fun _ _ k => k⟩
      obtain ⟨F2, p, s, e, t, hs, m⟩ := h y F' H' A' S' f r
      cases hs
      refine ⟨b, rfl, ?_⟩
      rw [dec_iff (tp_bl t)]
      exact m.1 _ rep_bl ⟨_, rfl⟩
theorem e3_of {Θ : Pm} {g : Gm} {P : List Nat} {e : Xp} {X : Cx} {W : WX} {x : Expr} {r : Rho → Rr SV} (h : PE X x (tG Θ (vR r) P W)) (ht : PT X x (tT Θ (fun ρ => finM .tst (r ρ)) P W)) (ev : ∀ m, evalE g m e = fun ρ => finM m (r ρ)) : E3 Θ g P e X W x := by
  have h1 : PE X x (tG Θ (evalE g .val e) P W) := by rw [ev]; exact h
  have h2 : PE X x (tG Θ (evalE g .opd e) P W) := by rw [ev]; exact h
  exact ⟨h1, PE.opd h2, fun _ => by rw [ev]; exact ht⟩
theorem r2_bl {o : Cop} {ra rb : Rho → Rr Opd} {ρ ρ' : Rho} {s : SV} (h : r2V (cmpF o) ra rb ρ = .ok s ρ') : ∃ b, s = .shr (.bl b) := by
  unfold r2V at h
  cases h1 : ra ρ with
  | bad => rw [h1] at h; cases h
  | exc _ _ => rw [h1] at h; cases h
  | ok x ρ1 =>
    rw [h1] at h
    replace h : ((rb ρ1).bnd fun y ρ => match x.get ρ, y.get ρ with
      | some x, some y => Rr.of (cmpF o x y) ρ
      | _, _ => .bad) = .ok s ρ' := h
    cases h2 : rb ρ1 with
    | bad => rw [h2] at h; cases h
    | exc _ _ => rw [h2] at h; cases h
    | ok y ρ2 =>
      rw [h2] at h
      replace h : (match x.get ρ2, y.get ρ2 with
        | some x, some y => Rr.of (cmpF o x y) ρ2
        | _, _ => .bad) = .ok s ρ' := h
      split at h
      · rename_i p q _ _
        unfold cmpF at h
        cases hc : cmpPV o p q with
        | none => rw [hc] at h; cases h
        | some b => rw [hc] at h; cases h; exact ⟨b, rfl⟩
      · cases h
theorem r1_bl {n : Bool} {c : PV} {ra : Rho → Rr Opd} {ρ ρ' : Rho} {s : SV} (h : r1V (isF n c) ra ρ = .ok s ρ') : ∃ b, s = .shr (.bl b) := by
  unfold r1V at h
  cases h1 : ra ρ with
  | bad => rw [h1] at h; cases h
  | exc _ _ => rw [h1] at h; cases h
  | ok x ρ1 =>
    rw [h1] at h
    replace h : (match x.get ρ1 with
      | some x => Rr.of (isF n c x) ρ1
      | none => .bad) = .ok s ρ' := h
    split at h
    · cases h; exact ⟨_, rfl⟩
    · cases h
theorem glb_ok {X : Cx} {sc : Scope} {nm : Str} (hs : X.env.scope = sc) (h : glbB sc nm = true) : Gl X nm := by
  unfold glbB at h
  show X.env.scope.names.lookup nm = _
  rw [hs]; exact of_decide_eq_true h
theorem subB_ok {xs ys : List Nat} (h : subB xs ys = true) : ∀ i ∈ xs, i ∈ ys := fun i hi => List.contains_iff_mem.mp (List.all_eq_true.mp h i hi)
theorem nmsB_ok {X : Cx} {sc : Scope} (hs : X.env.scope = sc) : ∀ {is : List Nat} {es : List Expr}, nmsB X.N sc is es = true → Names X es is
  | [], [], _ => .nil
  | [], _ :: _, h => by simp [nmsB] at h
  | _ :: _, [], h => by simp [nmsB] at h
  | i :: is, x :: xs, h => by
    simp only [nmsB, Bool.and_eq_true] at h
    obtain ⟨h1, h2⟩ := h
    split at h1
    · simp only [Bool.and_eq_true, decide_eq_true_eq] at h1
      refine .cons h1.1 (.inl ?_) (.inr ?_) (nmsB_ok hs h2) <;> (rw [hs]; exact h1.2)
    · cases h1
theorem tg_pg {Θ : Pm} {g : Gm} {G : Cfg} {X : Cx} {sc : Scope} {tg : Tgt} {x : Expr} (hG : Glb Θ g G X) (hs : X.env.scope = sc) (h : tgB G.N sc tg x = true) : PG X x (tgG X.K tg) := by
  rw [← hG.hN] at h
  cases tg with
  | one i =>
    simp only [tgB] at h
    split at h
    · simp only [Bool.and_eq_true, decide_eq_true_eq] at h
      exact pg_name hG.nd h.1 (.inl (by rw [hs]; exact h.2)) (.inr (by rw [hs]; exact h.2))
    · cases h
  | many is =>
    simp only [tgB] at h
    split at h
    · exact pg_tgt hG.calm hG.nd (nmsB_ok hs h)
    · cases h
theorem cOs_one {G : Cfg} {sc : Scope} {es : Xps} {x : Expr} (h : cOs G sc es [x] = true) : ∃ e, es = .cons e .nil ∧ cE G sc e x = true := by
  cases es with
  | nil => simp [cOs] at h
  | star _ _ => simp [cOs] at h
  | cons e es =>
    simp only [cOs, Bool.and_eq_true] at h
    cases es with
    | nil => exact ⟨e, rfl, h.1⟩
    | cons _ _ => simp [cOs] at h
    | star _ _ => simp [cOs] at h
theorem cOs_two {G : Cfg} {sc : Scope} {es : Xps} {x y : Expr} (h : cOs G sc es [x, y] = true) : ∃ e e2, es = .cons e (.cons e2 .nil) ∧ cE G sc e x = true ∧ cE G sc e2 y = true := by
  cases es with
  | nil => simp [cOs] at h
  | star _ _ => simp [cOs] at h
  | cons e es =>
    simp only [cOs, Bool.and_eq_true] at h
    obtain ⟨e2, rfl, h2⟩ := cOs_one h.2
    exact ⟨e, e2, rfl, h.1, h2⟩
theorem tyN_boot (t : Tyk) : bootBuiltins (Str.ofString (tyN t)) = some (.type (tyN t)) := by cases t <;> decide +kernel
theorem blt_any {Θ : Pm} {g : Gm} {G : Cfg} {P : List Nat} {W : WX} {X : Cx} {f : Bi} {ra : Rho → Rr (List Opd)} {nm : Str} {p pos : Pos} {e : Expr} {es : List Expr} (hG : Glb Θ g G X) (hf : (bltNm f).map (·.1) = some nm) (hg : Gl X nm) (ha : PA X (e :: es) (tOs Θ ra P W))
    (he : starEach (e :: es) X.env = (false, eval e X.env) :: starEach es X.env) (hpl : (backTo pos (starEach es X.env)).any (·.1) = false) : PE X (.Call (.Name nm p) (e :: es) [] pos) (tG Θ (vR (rNV (bltPV f) ra)) P W) := by
  cases f with
  | len => cases hf; exact blt_ok (cr_len hG.hK) hg (hG.blt _ (by decide)) (by decide +kernel) ha (by decide) (by decide) he hpl
  | sorted => cases hf; exact blt_ok (cr_sorted hG.hK hG.units) hg (hG.blt _ (by decide)) (by decide +kernel) ha (by decide) (by decide) he hpl
  | list => cases hf; exact bty_ok (cr_list hG.hK) hg (hG.blt _ (by decide)) (by decide +kernel) ha (by decide) (by decide) he hpl
  | tuple => cases hf; exact bty_ok (cr_tuple hG.hK) hg (hG.blt _ (by decide)) (by decide +kernel) ha (by decide) (by decide) he hpl
  | abs => cases hf; exact blt_ok cr_abs hg (hG.blt _ (by decide)) (by decide +kernel) ha (by decide) (by decide) he hpl
  | int => cases hf; exact bty_ok cr_int hg (hG.blt _ (by decide)) (by decide +kernel) ha (by decide) (by decide) he hpl
  | all => cases hf; exact blt_ok (cr_allP hG.hK hG.calm) hg (hG.blt _ (by decide)) (by decide +kernel) ha (by decide) (by decide) he hpl
  | any => cases hf; exact blt_ok (cr_anyP hG.hK hG.calm) hg (hG.blt _ (by decide)) (by decide +kernel) ha (by decide) (by decide) he hpl
  | _ => cases hf
theorem evalAs_var {g : Gm} {m : Option Nat} {j i : Nat} {e : Xp} {es : Xps} (hm : m = some j) (hv : e = .var i) : evalAs g m j (.cons e es) = fun ρ => ((fun ρ : Rho => match ρ[i]? with | some (SV.own _) => Rr.ok (Opd.ref i) ρ | _ => Rr.bad) ρ).bnd fun o ρ => (evalAs g m (j + 1) es ρ).bnd fun os ρ => .ok (o :: os) ρ := by
  subst hv
  funext ρ; simp only [evalAs, if_pos hm] <;> rfl
theorem lend_var {Θ : Pm} {g : Gm} {G : Cfg} {P : List Nat} {W : WX} {X : Cx} {sc : Scope} {i : Nat} {e : Xp} {x : Expr} (hG : Glb Θ g G X) (hs : X.env.scope = sc) (hi : e = .var i) (h1 : cE G sc e x = true) : PE X x (tG Θ (fun ρ => match ρ[i]? with | some (.own _) => Rr.ok (.ref i) ρ | _ => .bad) P W) := by
  subst hi
  simp only [cE] at h1
  split at h1
  · obtain ⟨n1, n2, n3, n4⟩ := nmB_ok h1
    exact lend_ok (by rw [hG.hN]; exact n1) (by rw [hs]; exact n2) n3 n4
  · cases h1
theorem evalAs_neg {g : Gm} {m : Option Nat} {j : Nat} {e : Xp} {es : Xps} (hm : ¬ m = some j) : evalAs g m j (.cons e es) = fun ρ => (evalE g .val e ρ).bnd fun o ρ => (evalAs g m (j + 1) es ρ).bnd fun os ρ => .ok (o :: os) ρ := by
  funext ρ
  cases e <;> simp only [evalAs, if_neg hm]
theorem evalAs_val {g : Gm} {m : Option Nat} {j : Nat} {e : Xp} {es : Xps} (hm : m = some j) (hv : ¬ ∃ i, e = .var i) : evalAs g m j (.cons e es) = fun ρ => (evalE g .val e ρ).bnd fun o ρ => (evalAs g m (j + 1) es ρ).bnd fun os ρ => .ok (o :: os) ρ := by
  funext ρ
  cases e <;> first | exact absurd ⟨_, rfl⟩ hv | simp only [evalAs, if_pos hm]
section
variable {Θ : Pm} {g : Gm} {G : Cfg} {P : List Nat}
mutual
theorem xp_ok : ∀ (e : Xp) {X : Cx} {W : WX} {sc : Scope} {x : Expr}, Glb Θ g G X → X.env.scope = sc → Takes X W → cE G sc e x = true → E3 Θ g P e X W x
  | .var i, X, W, sc, x, hG, hs, tk, h => by
    simp only [cE] at h
    split at h
    · rename_i nm p
      obtain ⟨h1, h2, h3, h4⟩ := nmB_ok h
      have h1 : X.N[i]? = some nm := by rw [hG.hN]; exact h1
      have h2 : Vis X.env.scope nm := by rw [hs]; exact h2
      exact ⟨pe_val h1 h2 h3 h4, PE.opd (pe_opd h1 h2 h3 h4), fun _ => pt_name hG.hK h1 h2 h3 h4⟩
    · cases h
  | .cst c, X, W, sc, x, hG, hs, tk, h => by
    simp only [cE] at h
    split at h
    · obtain ⟨w, h1, h2⟩ := cst_rep (K := Θ.K) (F := fun _ => none) h
      exact fin3 hG.hK (pe_cst h1 h2) (fun _ => rfl) fun m => by funext ρ; simp only [evalE]
    · cases h
  | .lst d es, X, W, sc, x, hG, hs, tk, h => by
    simp only [cE] at h
    split at h
    · exact fin3 hG.hK (lst_ok (d := d) (xps_ok es hG hs tk h)) (fun _ => rfl) fun m => by funext ρ; simp only [evalE]
    · cases h
  | .tup es, X, W, sc, x, hG, hs, tk, h => by
    simp only [cE] at h
    split at h
    · exact fin3 hG.hK (tup_ok (xps_ok es hG hs tk h)) (fun _ => rfl) fun m => by funext ρ; simp only [evalE]
    · cases h
  | .bop o a b, X, W, sc, x, hG, hs, tk, h => by
    simp only [cE] at h
    split at h
    · simp only [Bool.and_eq_true, decide_eq_true_eq] at h
      obtain ⟨⟨h0, h1⟩, h2⟩ := h
      subst h0
      refine fin3 hG.hK (bin_ok (f := bopPV o) (by rw [bopO_eq]; exact op_bop o) (xp_ok a hG hs tk h1).2.1 (xp_ok b hG hs tk h2).2.1) (fun _ => rfl) fun m => by funext ρ; simp only [evalE]; rfl
    · cases h
  | .cmp o a b, X, W, sc, x, hG, hs, tk, h => by
    simp only [cE] at h
    split at h
    · simp only [Bool.and_eq_true, decide_eq_true_eq, Bool.not_eq_true'] at h
      obtain ⟨⟨⟨h0, h3⟩, h1⟩, h2⟩ := h
      subst h0
      have ha := (xp_ok a hG hs tk h1).2.1
      have hb := (xp_ok b hG hs tk h2).2.1
      have ho : OpR X (compareOp (cmpOp o)) (rB Θ (cmpF o)) := op_cmp hG.hK hG.units o
      exact e3_of (cmp_ok ho ha hb (mark_ok h3)) (PT.weak (pt_cmpR ho ha hb (mark_ok h3)) fun _ _ _ q => t2V (testB (fun _ _ _ z => r2_bl z) q)) fun m => by funext ρ; simp only [evalE]; rfl
    · cases h
  | .isk n a c, X, W, sc, x, hG, hs, tk, h => by
    simp only [cE] at h
    split at h
    · simp only [Bool.and_eq_true, decide_eq_true_eq] at h
      obtain ⟨⟨h0, h3⟩, h1⟩ := h
      subst h0
      have ha := (xp_ok a hG hs tk h1).2.1
      obtain ⟨R, w, ho, hw, hr⟩ := is_any (Θ := Θ) (P := P) (W := W) (X := X) (ra := evalE g .opd a) (n := n) (isk_ok h3)
      exact e3_of (is_ok (n := n) ha (isk_ok h3)) (PT.weak (pt_cmpR ho ha hw (by cases n <;> rfl)) fun _ _ _ q => hr _ _ _ (testB (fun _ _ _ z => r1_bl z) q)) fun m => by funext ρ; simp only [evalE]; rfl
    · cases h
  | .band es, X, W, sc, x, hG, hs, tk, h => by
    simp only [cE] at h
    split at h
    · obtain ⟨h1, h2⟩ := and_ok es hG hs tk h
      have e1 : evalE g .val (.band es) = evalAnd g .val es := by funext ρ; simp only [evalE]
      have e2 : evalE g .opd (.band es) = evalAnd g .val es := by funext ρ; simp only [evalE]
      have e3 : evalE g .tst (.band es) = evalAnd g .tst es := by funext ρ; simp only [evalE]
      exact ⟨by rw [e1]; exact h1, by rw [e2]; exact PE.opd h1, fun ht => by rw [e3]; exact (h2 (by simpa only [tstOk] using ht)).pt⟩
    · cases h
  | .bor es, X, W, sc, x, hG, hs, tk, h => by
    simp only [cE] at h
    split at h
    · obtain ⟨h1, h2⟩ := or_ok es hG hs tk h
      have e1 : evalE g .val (.bor es) = evalOr g .val es := by funext ρ; simp only [evalE]
      have e2 : evalE g .opd (.bor es) = evalOr g .val es := by funext ρ; simp only [evalE]
      have e3 : evalE g .tst (.bor es) = evalOr g .tst es := by funext ρ; simp only [evalE]
      exact ⟨by rw [e1]; exact h1, by rw [e2]; exact PE.opd h1, fun ht => by rw [e3]; exact (h2 (by simpa only [tstOk] using ht)).pt⟩
    · cases h
  | .bnot a, X, W, sc, x, hG, hs, tk, h => by
    simp only [cE] at h
    split at h
    · simp only [Bool.and_eq_true] at h
      obtain ⟨_, ho, ht⟩ := xp_ok a hG hs tk h.1
      have ev : evalE g .tst (.bnot a) = fun ρ => (evalE g .tst a ρ).bnd fun b ρ => .ok (.imm (.shr (.bl (!b.tru)))) ρ := by funext ρ; simp only [evalE]
      have e1 : evalE g .val (.bnot a) = vR fun ρ => (trO (evalE g .opd a) ρ).bnd fun b ρ => .ok (.shr (.bl (!b.tru))) ρ := by funext ρ; simp only [evalE]; rfl
      have e2 : evalE g .opd (.bnot a) = vR fun ρ => (trO (evalE g .opd a) ρ).bnd fun b ρ => .ok (.shr (.bl (!b.tru))) ρ := by funext ρ; simp only [evalE]; rfl
      have h1 := not_ok (pos := ‹Pos›) hG.hK ho
      exact ⟨by rw [e1]; exact h1, by rw [e2]; exact PE.opd h1, fun _ => by rw [ev]; exact notT_ok (ht h.2)⟩
    · cases h
  | .ife t a b, X, W, sc, x, hG, hs, tk, h => by
    simp only [cE] at h
    split at h
    · simp only [Bool.and_eq_true] at h
      obtain ⟨⟨⟨h1, h2⟩, h3⟩, h4⟩ := h
      have e1 : ∀ m, m ≠ .tst → evalE g m (.ife t a b) = fun ρ => (evalE g .tst t ρ).bnd fun c ρ => if c.tru then evalE g .val a ρ else evalE g .val b ρ := fun m hm => by
        funext ρ
        have q : ∀ (e : Xp) (ρ : Rho), finM m ((evalE g .val e ρ).bnd fun o ρ => .ok o.sv ρ) = evalE g .val e ρ := fun e ρ => by
          cases hr : evalE g .val e ρ with
          | bad => rfl
          | exc _ _ => rfl
          | ok o ρ' =>
            obtain ⟨s, rfl⟩ := val_imm e hr
            cases m <;> first | rfl | exact absurd rfl hm
        simp only [evalE, q]
      have hv := ife_ok (pos := ‹Pos›) ((xp_ok t hG hs tk h1).2.2 h2) (xp_ok a hG hs tk h3).1 (xp_ok b hG hs tk h4).1
      exact ⟨by rw [e1 .val (by decide)]; exact hv, by rw [e1 .opd (by decide)]; exact PE.opd hv, fun z => by simp [tstOk] at z⟩
    · cases h
  | .idx a i, X, W, sc, x, hG, hs, tk, h => by
    simp only [cE] at h
    split at h
    · simp only [Bool.and_eq_true] at h
      exact fin3 hG.hK (ix_ok (f := ixF) (op_ix hG.hK hG.units) (xp_ok a hG hs tk h.1.2).2.1 (xp_ok i hG hs tk h.2).2.1 (plainIx_ok h.1.1)) (fun _ => rfl) fun m => by funext ρ; simp only [evalE]; rfl
    · cases h
  | .slc a lo hi, X, W, sc, x, hG, hs, tk, h => by
    simp only [cE] at h
    split at h
    · simp only [Bool.and_eq_true] at h
      exact fin3 hG.hK (slc_ok hG.hK (xp_ok a hG hs tk h.1.1).2.1 (xo_ok lo hG hs tk h.1.2) (xo_ok hi hG hs tk h.2)) (fun _ => rfl) fun m => by funext ρ; simp only [evalE]; rfl
    · cases h
  | .call l f es, X, W, sc, x, hG, hs, tk, h => by
    simp only [cE] at h
    split at h
    · rename_i nm p xs cp
      simp only [Bool.and_eq_true, decide_eq_true_eq, Bool.not_eq_true'] at h
      obtain ⟨⟨⟨⟨⟨h1, h2⟩, h3⟩, h4⟩, h5⟩, h6⟩ := h
      cases xs with
      | nil => simp at h4
      | cons y ys =>
        obtain ⟨k, fa, fd, ps, f1, f2, f3, f4, f5, f6⟩ := hG.fn f nm _ h1
        rw [hG.lent] at h6
        obtain ⟨ha, hlen⟩ := xa_ok es hG hs tk h5 h6
        have hst : starB y = false := by simp only [List.all_cons, Bool.and_eq_true, Bool.not_eq_true'] at h5; exact h5.1
        have hst2 : ys.all (fun x => !starB x) = true := by simp only [List.all_cons, Bool.and_eq_true] at h5; exact h5.2
        exact fin3 hG.hK (call_ok (fun j v bk as => hG.back f j v bk as) (fun j v bk as => hG.backx f j v bk as) tk f5 f4 f6 (glb_ok hs h2) f1 f2 f3 (plainNm_ok h3).1 ha (star_one hst) (star_any hst2) fun ρ os ρ' q => hlen ρ os ρ' q) (fun _ => rfl) fun m => by funext ρ; simp only [evalE]; rfl
    · cases h
  | .blt f es, X, W, sc, x, hG, hs, tk, h => by
    simp only [cE] at h
    have ev : ∀ m, evalE g m (.blt f es) = fun ρ => finM m (rNV (bltPV f) (evalOs g es) ρ) := fun m => by funext ρ; simp only [evalE]; rfl
    split at h
    · -- isinstance
      rename_i t
      split at h
      · rename_i nm p y nm2 p2 cp
        simp only [Bool.and_eq_true, decide_eq_true_eq, Bool.not_eq_true'] at h
        obtain ⟨⟨⟨⟨⟨h1, h2⟩, h3⟩, h4⟩, h5⟩, h6⟩ := h
        subst h1 h2
        obtain ⟨e, he, h7⟩ := cOs_one h6
        have hsz : sizeOf e < sizeOf es := by rw [he]; simp; omega
        have hx := (xp_ok e hG hs tk h7).2.1
        have eo : evalOs g es = fun ρ => (evalE g .opd e ρ).bnd fun o ρ => (Rr.ok [] ρ).bnd fun os ρ => .ok (o :: os) ρ := by rw [he]; funext ρ; simp only [evalOs]
        refine fin3 hG.hK ?_ (fun _ => rfl) ev
        rw [eo]
        exact isi_ok hG.hK (glb_ok hs h3) (hG.blt _ (by decide)) (glb_ok hs h4) (hG.blt _ (by cases t <;> decide)) (tyN_boot t) (by cases t <;> decide) (by cases t <;> decide) hx (star_one h5) rfl
      · cases h
    · split at h
      · rename_i nm p nm2 p2 y z pp cp
        simp only [Bool.and_eq_true, decide_eq_true_eq, Bool.not_eq_true'] at h
        obtain ⟨⟨⟨⟨⟨⟨h1, h2⟩, h3⟩, h4⟩, h5⟩, h6⟩, h7⟩ := h
        subst h1 h2
        obtain ⟨e, e2, he, h8, h9⟩ := cOs_two h7
        have hsz : sizeOf e < sizeOf es := by rw [he]; simp; omega
        have hsz2 : sizeOf e2 < sizeOf es := by rw [he]; simp; omega
        have hx := (xp_ok e hG hs tk h8).2.1
        have hy := (xp_ok e2 hG hs tk h9).2.1
        have eo : evalOs g es = fun ρ => (evalE g .opd e ρ).bnd fun o ρ => ((evalE g .opd e2 ρ).bnd fun o2 ρ => (Rr.ok [] ρ).bnd fun os ρ => .ok (o2 :: os) ρ).bnd fun os ρ => .ok (o :: os) ρ := by rw [he]; funext ρ; simp only [evalOs]
        refine fin3 hG.hK ?_ (fun _ => rfl) ev
        rw [eo]
        exact listrng_ok hG.calm (glb_ok hs h3) (hG.blt _ (by decide)) (glb_ok hs h4) (hG.blt _ (by decide)) hx hy (star_one h5) (star_one h6) (star_any (by simp [h6])) rfl
      · cases h
    · split at h
      · rename_i nm p nm2 p2 y pp cp
        simp only [Bool.and_eq_true, decide_eq_true_eq, Bool.not_eq_true'] at h
        obtain ⟨⟨⟨⟨⟨h1, h2⟩, h3⟩, h4⟩, h5⟩, h6⟩ := h
        subst h1 h2
        obtain ⟨e, he, h7⟩ := cOs_one h6
        have hsz : sizeOf e < sizeOf es := by rw [he]; simp; omega
        have hx := (xp_ok e hG hs tk h7).2.1
        have eo : evalOs g es = fun ρ => (evalE g .opd e ρ).bnd fun o ρ => (Rr.ok [] ρ).bnd fun os ρ => .ok (o :: os) ρ := by rw [he]; funext ρ; simp only [evalOs]
        refine fin3 hG.hK ?_ (fun _ => rfl) ev
        rw [eo]
        exact listrev_ok hG.hK hG.calm (glb_ok hs h3) (hG.blt _ (by decide)) (glb_ok hs h4) (hG.blt _ (by decide)) hx (star_one h5) rfl
      · cases h
    · rename_i f' hf1 hf2 hf3
      split at h
      · rename_i nm p xs cp
        simp only [Bool.and_eq_true, decide_eq_true_eq, Bool.not_eq_true'] at h
        obtain ⟨⟨⟨⟨h1, h2⟩, h3⟩, h4⟩, h5⟩ := h
        cases xs with
        | nil => simp at h3
        | cons y ys =>
          have ha := xos_ok es hG hs tk h4 h5
          have hst : starB y = false := by simp only [List.all_cons, Bool.and_eq_true, Bool.not_eq_true'] at h4; exact h4.1
          have hst2 : ys.all (fun x => !starB x) = true := by simp only [List.all_cons, Bool.and_eq_true] at h4; exact h4.2
          exact fin3 hG.hK (blt_any hG h1 (glb_ok hs h2) ha (star_one hst) (star_any hst2)) (fun _ => rfl) ev
      · cases h
  | .mth k o es, X, W, sc, x, hG, hs, tk, h => by
    simp only [cE] at h
    split at h
    · split at h
      · rename_i y nm ap xs cp
        simp only [Bool.and_eq_true, decide_eq_true_eq, Bool.not_eq_true'] at h
        obtain ⟨⟨⟨⟨⟨⟨⟨h1, h2⟩, h3⟩, h4⟩, h5⟩, h6⟩, h7⟩, h8⟩ := h
        subst h1
        cases xs with
        | nil => simp at h5
        | cons z zs =>
          have ho := (xp_ok o hG hs tk h7).2.1
          have ha := xos_ok es hG hs tk h6 h8
          have hst : starB z = false := by simp only [List.all_cons, Bool.and_eq_true, Bool.not_eq_true'] at h6; exact h6.1
          have hst2 : zs.all (fun x => !starB x) = true := by simp only [List.all_cons, Bool.and_eq_true] at h6; exact h6.2
          exact fin3 hG.hK (index_ok hG.hK hG.units ho ha (base_ok h2) (star_few h6 h4) h3 (star_one hst) (star_any hst2)) (fun _ => rfl) fun m => by funext ρ; simp only [evalE] <;> rfl
      · cases h
    · cases h
  | .xfld _ _, X, W, sc, x, hG, hs, tk, h => by simp [cE] at h
  | .lcm d it tg own t e, X, W, sc, x, hG, hs, tk, h => by
    simp only [cE] at h
    split at h
    · rename_i elt tgE itE ifs scope pos
      simp only [Bool.and_eq_true, Bool.not_eq_true'] at h
      obtain ⟨⟨⟨⟨⟨⟨h1, h2⟩, h3⟩, h4⟩, h5⟩, h6⟩, h7⟩ := h
      have ok : BlkOk X.N X.env.scope scope (ownP G.N own) := by rw [hG.hN, hs]; exact blkOk_by h1
      have hi := xw_ok it hG hs tk h5
      have hr := pe_lc (pos := pos) (g := tgG X.K tg) hG.calm hG.nd hi ok (fun s H C cl fp => tg_pg (hG.blk s H scope (compEnvC scope cl C X.env) fp) (by rw [← hs]; rfl) h3)
        (fun s H C cl fp => xif_ok t (hG.blk s H scope (compEnvC scope cl C X.env) fp) (by rw [← hs]; rfl) takes_blk h6)
        (fun s H C cl fp => (xp_ok e (hG.blk s H scope (compEnvC scope cl C X.env) fp) (by rw [← hs]; rfl) takes_blk h7).1) (fold_ok h4)
      rw [ownP_snd] at hr
      exact fin3 hG.hK (PE.weak hr fun σ H Q q => lc_run hG.hK (fun _ _ _ z => val_imm e z) (subB_ok h2) q) (fun _ => rfl) fun m => by funext ρ; simp only [evalE]; rfl
    · cases h
  | .lc2 it tg it2 tg2 own own2 t e, X, W, sc, x, hG, hs, tk, h => by
    simp only [cE] at h
    split at h
    · rename_i elt tgE itE tgE2 itE2 ifs scope pos
      simp only [Bool.and_eq_true, Bool.not_eq_true'] at h
      obtain ⟨⟨⟨⟨⟨⟨⟨⟨⟨⟨⟨h1, h2⟩, h2b⟩, h2c⟩, h3⟩, h3b⟩, h4⟩, h4b⟩, h5⟩, h5b⟩, h6⟩, h7⟩ := h
      have ok : BlkOk X.N X.env.scope scope (ownP G.N own) := by rw [hG.hN, hs]; exact blkOk_by h1
      have hi := xw_ok it hG hs tk h5
      have hr := pe_lc2 (pos := pos) (g := tgG X.K tg) (g1 := tgG X.K tg2) (vs1 := own2) hG.calm hG.nd hi ok (by rw [ownP_snd]; exact subB_ok h2c) (fun s H C cl fp => tg_pg (hG.blk s H scope (compEnvC scope cl C X.env) fp) (by rw [← hs]; rfl) h3)
        (fun s H C cl fp => pts_nil)
        (fun s H C cl fp => xw_ok it2 (hG.blk s H scope (compEnvC scope cl C X.env) fp) (by rw [← hs]; rfl) takes_blk h5b)
        (fun s H C cl fp => tg_pg (hG.blk s H scope (compEnvC scope cl C X.env) fp) (by rw [← hs]; rfl) h3b)
        (fun s H C cl fp => xif_ok t (hG.blk s H scope (compEnvC scope cl C X.env) fp) (by rw [← hs]; rfl) takes_blk h6)
        (fun s H C cl fp => (xp_ok e (hG.blk s H scope (compEnvC scope cl C X.env) fp) (by rw [← hs]; rfl) takes_blk h7).1) (fold_ok h4) (fun _ => fold_ok h4b)
      rw [ownP_snd] at hr
      exact fin3 hG.hK (PE.weak hr fun σ H Q q => lc2_run hG.hK (fun _ _ _ z => val_imm e z) (subB_ok h2) (subB_ok h2b) (subB_ok h2c) q) (fun _ => rfl) fun m => by funext ρ; simp only [evalE]; rfl
    · cases h
  | .dcm it tg own k v, X, W, sc, x, hG, hs, tk, h => by
    simp only [cE] at h
    split at h
    · rename_i kx vx tgE itE scope pos
      simp only [Bool.and_eq_true, Bool.not_eq_true'] at h
      obtain ⟨⟨⟨⟨⟨⟨h1, h2⟩, h3⟩, h4⟩, h5⟩, h6⟩, h7⟩ := h
      have ok : BlkOk X.N X.env.scope scope (ownP G.N own) := by rw [hG.hN, hs]; exact blkOk_by h1
      have hi := xw_ok it hG hs tk h5
      have hr := pe_dc (pos := pos) (g := tgG X.K tg) hG.calm hG.nd hi ok (fun s H C cl fp => tg_pg (hG.blk s H scope (compEnvC scope cl C X.env) fp) (by rw [← hs]; rfl) h3)
        (fun s H C cl fp => pts_nil)
        (fun s H C cl fp => PE.opd (xp_ok k (hG.blk s H scope (compEnvC scope cl C X.env) fp) (by rw [← hs]; rfl) takes_blk h6).1)
        (fun s H C cl fp => PE.opd (xp_ok v (hG.blk s H scope (compEnvC scope cl C X.env) fp) (by rw [← hs]; rfl) takes_blk h7).1) (fold_ok h4)
      rw [ownP_snd] at hr
      exact fin3 hG.hK (PE.weak hr fun σ H Q q => dc_run hG.hK (fun _ _ _ z => val_imm k z) (fun _ _ _ z => val_imm v z) (subB_ok h2) q) (fun _ => rfl) fun m => by funext ρ; simp only [evalE]; rfl
    · cases h
termination_by e => sizeOf e
decreasing_by all_goals (simp_wf; try omega)
theorem xif_ok : ∀ (t : Xpo) {X : Cx} {W : WX} {sc : Scope} {xs : List Expr}, Glb Θ g G X → X.env.scope = sc → Takes X W → cIf G sc t xs = true → PTs X xs (tB Θ (evalTe g t) P W)
  | .no, X, W, sc, xs, hG, hs, tk, h => by
    cases xs with
    | nil =>
      have e : evalTe g .no = fun ρ => .ok true ρ := by funext ρ; simp only [evalTe]
      rw [e]
      exact ⟨fun pins s σ H Q I ⟨B, F, A, ρ, S, q⟩ => pts_nil.run pins s σ H Q I (q F H A S (Frm.refl _ _ _))⟩
    | cons x xs => simp [cIf] at h
  | .som e, X, W, sc, xs, hG, hs, tk, h => by
    match xs, h with
    | [], h => simp [cIf] at h
    | [x], h =>
      simp only [cIf, Bool.and_eq_true] at h
      have ht := (xp_ok e hG hs tk h.1).2.2 h.2
      have e' : evalTe g (.som e) = fun ρ => (evalE g .tst e ρ).bnd fun o ρ => .ok o.tru ρ := by funext ρ; simp only [evalTe]
      rw [e']
      exact pts_one (PT.weak ht fun σ H Q ⟨B, F, A, ρ, S, q⟩ => ⟨B, F, A, ρ, S, (Go.bnd q).mono (fun o ρ' k => k) fun _ _ k => k⟩)
    | x :: y :: xs, h => simp [cIf] at h
termination_by e => sizeOf e
decreasing_by all_goals (simp_wf; try omega)
theorem xw_ok : ∀ (it : Wk) {X : Cx} {W : WX} {sc : Scope} {tgE x : Expr}, Glb Θ g G X → X.env.scope = sc → Takes X W → cW G sc (isTup tgE) it x = true → PI X tgE x (tI Θ (evalIt g it) P W)
  | .seq e, X, W, sc, tgE, x, hG, hs, tk, h => by
    simp only [cW] at h
    have e' : evalIt g (.seq e) = seqW (evalE g .opd e) := by funext ρ; simp only [evalIt]; rfl
    rw [e']; exact it_seq hG.hK (xp_ok e hG hs tk h).2.1
  | .rng1 a, X, W, sc, tgE, x, hG, hs, tk, h => by
    simp only [cW] at h
    split at h
    · simp only [Bool.and_eq_true, decide_eq_true_eq, Bool.not_eq_true'] at h
      obtain ⟨⟨⟨h1, h2⟩, h3⟩, h4⟩ := h
      subst h1
      have e' : evalIt g (.rng1 a) = rng1W (evalE g .opd a) := by funext ρ; simp only [evalIt]; rfl
      rw [e']; exact it_rng1 (glb_ok hs h2) (hG.blt _ (by decide)) (xp_ok a hG hs tk h4).2.1 (star_one h3)
    · cases h
  | .rng2 a b, X, W, sc, tgE, x, hG, hs, tk, h => by
    simp only [cW] at h
    split at h
    · simp only [Bool.and_eq_true, decide_eq_true_eq, Bool.not_eq_true'] at h
      obtain ⟨⟨⟨⟨⟨h1, h2⟩, h3⟩, h3b⟩, h4⟩, h5⟩ := h
      subst h1
      have e' : evalIt g (.rng2 a b) = rng2W (evalE g .opd a) (evalE g .opd b) := by funext ρ; simp only [evalIt]; rfl
      rw [e']; exact it_rng2 (glb_ok hs h2) (hG.blt _ (by decide)) (xp_ok a hG hs tk h4).2.1 (xp_ok b hG hs tk h5).2.1 (star_one h3) (star_one h3b)
    · cases h
  | .enm a, X, W, sc, tgE, x, hG, hs, tk, h => by
    simp only [cW] at h
    split at h
    · simp only [Bool.and_eq_true, decide_eq_true_eq, Bool.not_eq_true'] at h
      obtain ⟨⟨⟨⟨h1, h0⟩, h2⟩, h3⟩, h4⟩ := h
      subst h1
      have e' : evalIt g (.enm a) = enmW (evalE g .opd a) := by funext ρ; simp only [evalIt]; rfl
      have hx := (xp_ok a hG hs tk h4).2.1
      rw [e']
      cases tgE with
      | Tuple elts kk tpos => exact it_enm hG.hK (glb_ok hs h2) (hG.blt _ (by decide)) hx (star_one h3)
      | _ => cases h0
    · cases h
termination_by e => sizeOf e
decreasing_by all_goals (simp_wf; try omega)
theorem xa_ok : ∀ (es : Xps) {X : Cx} {W : WX} {sc : Scope} {xs : List Expr} {m : Option Nat} {j : Nat}, Glb Θ g G X → X.env.scope = sc → Takes X W → xs.all (fun x => !starB x) = true → cAs G sc m j es xs = true →
    PA X xs (tA Θ (evalAs g m j es) P W) ∧ ∀ ρ os ρ', evalAs g m j es ρ = .ok os ρ' → os.length = xs.length
  | .nil, X, W, sc, xs, m, j, hG, hs, tk, hst, h => by
    cases xs with
    | nil =>
      have e : evalAs g m j .nil = fun ρ => .ok [] ρ := by funext ρ; simp only [evalAs]
      refine ⟨by rw [e]; exact as_nil, fun ρ os ρ' q => ?_⟩
      rw [e] at q; cases q; rfl
    | cons x xs => simp [cAs] at h
  | .star _ _, X, W, sc, xs, m, j, hG, hs, tk, hst, h => by cases xs <;> simp [cAs] at h
  | .cons e es, X, W, sc, xs, m, j, hG, hs, tk, hst, h => by
    cases xs with
    | nil => simp [cAs] at h
    | cons x xs =>
      simp only [cAs, Bool.and_eq_true] at h
      simp only [List.all_cons, Bool.and_eq_true, Bool.not_eq_true'] at hst
      obtain ⟨hb, hl⟩ := xa_ok es (m := m) (j := j + 1) hG hs tk hst.2 h.2
      have e' : ∃ r, evalAs g m j (.cons e es) = (fun ρ => (r ρ).bnd fun o ρ => (evalAs g m (j + 1) es ρ).bnd fun os ρ => .ok (o :: os) ρ) ∧ PE X x (tG Θ r P W) := by
        by_cases hm : m = some j
        · by_cases hv : ∃ i, e = .var i
          · obtain ⟨i, hi⟩ := hv
            exact ⟨_, evalAs_var hm hi, lend_var hG hs hi h.1⟩
          · exact ⟨evalE g .val e, evalAs_val hm hv, (xp_ok e hG hs tk h.1).1⟩
        · exact ⟨_, evalAs_neg hm, (xp_ok e hG hs tk h.1).1⟩
      obtain ⟨r, e', hx⟩ := e'
      refine ⟨by rw [e']; exact as_cons hx hb (star_one hst.1), fun ρ os ρ' q => ?_⟩
      rw [e'] at q
      cases hr : r ρ with
      | bad => simp only [hr] at q; cases q
      | exc _ _ => simp only [hr] at q; cases q
      | ok o ρ1 =>
        simp only [hr] at q
        replace q : ((evalAs g m (j + 1) es ρ1).bnd fun os ρ => Rr.ok (o :: os) ρ) = .ok os ρ' := q
        cases hr2 : evalAs g m (j + 1) es ρ1 with
        | bad => rw [hr2] at q; cases q
        | exc _ _ => rw [hr2] at q; cases q
        | ok os2 ρ2 => rw [hr2] at q; cases q; simp [hl _ _ _ hr2]
termination_by e => sizeOf e
decreasing_by all_goals (simp_wf; try omega)
theorem xos_ok : ∀ (es : Xps) {X : Cx} {W : WX} {sc : Scope} {xs : List Expr}, Glb Θ g G X → X.env.scope = sc → Takes X W → xs.all (fun x => !starB x) = true → cOs G sc es xs = true → PA X xs (tOs Θ (evalOs g es) P W)
  | .nil, X, W, sc, xs, hG, hs, tk, hst, h => by
    cases xs with
    | nil =>
      have e : evalOs g .nil = fun ρ => .ok [] ρ := by funext ρ; simp only [evalOs]
      rw [e]; exact os_nil
    | cons x xs => simp [cOs] at h
  | .star _ _, X, W, sc, xs, hG, hs, tk, hst, h => by cases xs <;> simp [cOs] at h
  | .cons e es, X, W, sc, xs, hG, hs, tk, hst, h => by
    cases xs with
    | nil => simp [cOs] at h
    | cons x xs =>
      simp only [cOs, Bool.and_eq_true] at h
      simp only [List.all_cons, Bool.and_eq_true, Bool.not_eq_true'] at hst
      have e' : evalOs g (.cons e es) = fun ρ => (evalE g .opd e ρ).bnd fun o ρ => (evalOs g es ρ).bnd fun os ρ => .ok (o :: os) ρ := by funext ρ; simp only [evalOs]
      rw [e']
      exact os_cons (xp_ok e hG hs tk h.1).2.1 (xos_ok es hG hs tk hst.2 h.2) (star_one hst.1)
termination_by e => sizeOf e
decreasing_by all_goals (simp_wf; try omega)
theorem xo_ok : ∀ (e : Xpo) {X : Cx} {W : WX} {sc : Scope} {x : Option Expr}, Glb Θ g G X → X.env.scope = sc → Takes X W → cO G sc e x = true → PO X x (tOi Θ (evalOe g e) P W)
  | .no, X, W, sc, x, hG, hs, tk, h => by
    cases x with
    | none =>
      have e : evalOe g .no = fun ρ => .ok none ρ := by funext ρ; simp only [evalOe]
      rw [e]; exact oi_no
    | some x => simp [cO] at h
  | .som e, X, W, sc, x, hG, hs, tk, h => by
    cases x with
    | none => simp [cO] at h
    | some x =>
      simp only [cO] at h
      have e' : evalOe g (.som e) = oiR (evalE g .opd e) := by funext ρ; simp only [evalOe]; rfl
      rw [e']; exact oi_som (xp_ok e hG hs tk h).2.1
termination_by e => sizeOf e
decreasing_by all_goals (simp_wf; try omega)
theorem xps_ok : ∀ (es : Xps) {X : Cx} {W : WX} {sc : Scope} {xs : List Expr}, Glb Θ g G X → X.env.scope = sc → Takes X W → cEs G sc es xs = true → PA X xs (tS Θ (evalEs g es) P W)
  | .nil, X, W, sc, xs, hG, hs, tk, h => by
    cases xs with
    | nil =>
      have e : evalEs g .nil = fun ρ => .ok [] ρ := by funext ρ; simp only [evalEs]
      rw [e]; exact es_nil
    | cons x xs => simp [cEs] at h
  | .cons e es, X, W, sc, xs, hG, hs, tk, h => by
    cases xs with
    | nil => simp [cEs] at h
    | cons x xs =>
      simp only [cEs, Bool.and_eq_true, Bool.not_eq_true'] at h
      have e' : evalEs g (.cons e es) = fun ρ => (evalE g .val e ρ).bnd fun v ρ => (evalEs g es ρ).bnd fun vs ρ => .ok (v.sv :: vs) ρ := by funext ρ; simp only [evalEs]
      rw [e']
      exact es_cons (xp_ok e hG hs tk h.1.2).1 (xps_ok es hG hs tk h.2) (fun ρ o ρ' q => val_imm e q) (star_one h.1.1)
  | .star e es, X, W, sc, xs, hG, hs, tk, h => by
    cases xs with
    | nil => simp [cEs] at h
    | cons x xs =>
      simp only [cEs, Bool.and_eq_true] at h
      obtain ⟨h1, h2⟩ := h
      split at h1
      · rename_i y p
        have e' : evalEs g (.star e es) = fun ρ => (evalE g .opd e ρ).bnd fun x ρ => match x.get ρ with
          | some (.lst xs) => (evalEs g es ρ).bnd fun vs ρ => .ok (xs.map .shr ++ vs) ρ
          | some (.tup xs) => (evalEs g es ρ).bnd fun vs ρ => .ok (xs.map .shr ++ vs) ρ
          | _ => .bad := by funext ρ; simp only [evalEs] <;> rfl
        rw [e']
        exact es_star hG.hK (xp_ok e hG hs tk h1).2.1 (xps_ok es hG hs tk h2) rfl
      · cases h1
termination_by e => sizeOf e
decreasing_by all_goals (simp_wf; try omega)
theorem and_ok : ∀ (es : Xps) {X : Cx} {W : WX} {sc : Scope} {xs : List Expr} {pos : Pos}, Glb Θ g G X → X.env.scope = sc → Takes X W → cBs G sc es xs = true → PE X (.BoolOp .And xs pos) (tG Θ (evalAnd g .val es) P W) ∧ (tstOk.tstOks es = true → PW X (.BoolOp .And xs pos) (tT Θ (evalAnd g .tst es) P W))
  | .nil, X, W, sc, xs, pos, hG, hs, tk, h => by simp [cBs] at h
  | .star _ _, X, W, sc, xs, pos, hG, hs, tk, h => by simp [cBs] at h
  | .cons e .nil, X, W, sc, xs, pos, hG, hs, tk, h => by
    match xs, h with
    | [], h => simp [cBs] at h
    | [x], h =>
      simp only [cBs] at h
      obtain ⟨h1, h2, h3⟩ := xp_ok e hG hs tk h
      have e1 : ∀ m, evalAnd g m (.cons e .nil) = evalE g m e := fun m => by funext ρ; cases m <;> simp only [evalAnd]
      exact ⟨by rw [e1]; exact pe_one h1, fun ht => by rw [e1]; exact pw_and1 (h3 (by simpa [tstOk.tstOks] using ht))⟩
    | x :: y :: xs, h => simp [cBs] at h
  | .cons e (.cons e2 es), X, W, sc, xs, pos, hG, hs, tk, h => by
    match xs, h with
    | [], h => simp [cBs] at h
    | [x], h => simp [cBs] at h
    | x :: y :: xs, h =>
      simp only [cBs, Bool.and_eq_true] at h
      obtain ⟨h1, h2, h3⟩ := xp_ok e hG hs tk h.1
      obtain ⟨k1, k2⟩ := and_ok (.cons e2 es) (pos := pos) hG hs tk h.2
      have e1 : evalAnd g .val (.cons e (.cons e2 es)) = andV (evalE g .val e) (evalAnd g .val (.cons e2 es)) := by funext ρ; simp only [evalAnd]; rfl
      have e2' : evalAnd g .tst (.cons e (.cons e2 es)) = andB (evalE g .tst e) (evalAnd g .tst (.cons e2 es)) := by funext ρ; simp only [evalAnd]; rfl
      refine ⟨by rw [e1]; exact andV_ok h1 k1, fun ht => ?_⟩
      rw [e2']
      have ht : tstOk e = true ∧ tstOk.tstOks (.cons e2 es) = true := by simpa only [tstOk.tstOks, Bool.and_eq_true] using ht
      exact andB_ok (h3 ht.1) (k2 ht.2)
  | .cons e (.star e2 es), X, W, sc, xs, pos, hG, hs, tk, h => by
    match xs, h with
    | [], h => simp [cBs] at h
    | [x], h => simp [cBs] at h
    | x :: y :: xs, h => simp [cBs] at h
termination_by e => sizeOf e
decreasing_by all_goals (simp_wf; try omega)
theorem or_ok : ∀ (es : Xps) {X : Cx} {W : WX} {sc : Scope} {xs : List Expr} {pos : Pos}, Glb Θ g G X → X.env.scope = sc → Takes X W → cBs G sc es xs = true → PE X (.BoolOp .Or xs pos) (tG Θ (evalOr g .val es) P W) ∧ (tstOk.tstOks es = true → PW X (.BoolOp .Or xs pos) (tT Θ (evalOr g .tst es) P W))
  | .nil, X, W, sc, xs, pos, hG, hs, tk, h => by simp [cBs] at h
  | .star _ _, X, W, sc, xs, pos, hG, hs, tk, h => by simp [cBs] at h
  | .cons e .nil, X, W, sc, xs, pos, hG, hs, tk, h => by
    match xs, h with
    | [], h => simp [cBs] at h
    | [x], h =>
      simp only [cBs] at h
      obtain ⟨h1, h2, h3⟩ := xp_ok e hG hs tk h
      have e1 : ∀ m, evalOr g m (.cons e .nil) = evalE g m e := fun m => by funext ρ; cases m <;> simp only [evalOr]
      exact ⟨by rw [e1]; exact pe_one h1, fun ht => by rw [e1]; exact pw_or1 (h3 (by simpa [tstOk.tstOks] using ht))⟩
    | x :: y :: xs, h => simp [cBs] at h
  | .cons e (.cons e2 es), X, W, sc, xs, pos, hG, hs, tk, h => by
    match xs, h with
    | [], h => simp [cBs] at h
    | [x], h => simp [cBs] at h
    | x :: y :: xs, h =>
      simp only [cBs, Bool.and_eq_true] at h
      obtain ⟨h1, h2, h3⟩ := xp_ok e hG hs tk h.1
      obtain ⟨k1, k2⟩ := or_ok (.cons e2 es) (pos := pos) hG hs tk h.2
      have e1 : evalOr g .val (.cons e (.cons e2 es)) = orV (evalE g .val e) (evalOr g .val (.cons e2 es)) := by funext ρ; simp only [evalOr]; rfl
      have e2' : evalOr g .tst (.cons e (.cons e2 es)) = orB (evalE g .tst e) (evalOr g .tst (.cons e2 es)) := by funext ρ; simp only [evalOr]; rfl
      refine ⟨by rw [e1]; exact orV_ok h1 k1, fun ht => ?_⟩
      rw [e2']
      have ht : tstOk e = true ∧ tstOk.tstOks (.cons e2 es) = true := by simpa only [tstOk.tstOks, Bool.and_eq_true] using ht
      exact orB_ok (h3 ht.1) (k2 ht.2)
  | .cons e (.star e2 es), X, W, sc, xs, pos, hG, hs, tk, h => by
    match xs, h with
    | [], h => simp [cBs] at h
    | [x], h => simp [cBs] at h
    | x :: y :: xs, h => simp [cBs] at h
termination_by e => sizeOf e
decreasing_by all_goals (simp_wf; try omega)
end
end
end KL
end
section
set_option Elab.async false
set_option linter.all false
set_option maxRecDepth 100000
/-! KA24: name = {dict comprehension} on one line. -/
namespace KL
open PySem PySem.Spec PyProof.Rows L2
section
variable {X : Cx}
theorem ps_setDc {i : Nat} {y : Str} {py : Pos} {kx vx tg iter : Expr} {ifs : List Expr} {scope : Scope} {own : List (Str × Nat)} {pos spos : Pos} {wi : TI} {g : TG} {tt : TT} {tk tv : TE} (hc : X.calm = true) (hN : X.N.Nodup) (hy : X.N[i]? = some y) (hyl : X.env.scope.names.lookup y = some .local)
    (hsw : swapsWith (.DictComp kx vx [⟨tg, iter, ifs, 0⟩] scope pos) (some (.Name y py)) spos.line X.env = pure true) (hi : PI X tg iter wi) (ok : BlkOk X.N X.env.scope scope own)
    (hg : ∀ (s : Shared) (H : Hp) (C : Addr) (cl : List (Str × Addr)) (fp : List Addr), PG (X.blk s H scope (compEnvC scope cl C X.env) fp) tg g) (ht : ∀ (s : Shared) (H : Hp) (C : Addr) (cl : List (Str × Addr)) (fp : List Addr), PTs (X.blk s H scope (compEnvC scope cl C X.env) fp) ifs tt)
    (hk : ∀ (s : Shared) (H : Hp) (C : Addr) (cl : List (Str × Addr)) (fp : List Addr), PE (X.blk s H scope (compEnvC scope cl C X.env) fp) kx tk)
    (he : ∀ (s : Shared) (H : Hp) (C : Addr) (cl : List (Str × Addr)) (fp : List Addr), PE (X.blk s H scope (compEnvC scope cl C X.env) fp) vx tv) (hs : ∀ x, foldedSetIterable iter X.env x = pure x) :
    PS X (.Assign [.Name y py] (.DictComp kx vx [⟨tg, iter, ifs, 0⟩] scope pos) spos) (tAsg (tDc wi g tt tk tv (own.map (·.2))) (gName i)) := by
  refine ⟨fun pins s σ H D I h => ?_⟩
  rw [exec_Assign_Name_used _ _ _ _ hsw]
  refine wpAny_bind (wpAny_standAt (wpAny_bind ?_))
  show wpAny _ X.A (do let _ ← comprehension (.DictComp kx vx [⟨tg, iter, ifs, 0⟩] scope pos) scope X.env (firstIterPos [⟨tg, iter, ifs, 0⟩] pos) newDict false (eval iter X.env) (some (assign (.Name y py) X.env))) _ _ s
  have h : tDc wi g tt tk tv (own.map (·.2)) σ H (fun x H1 => gName i x σ H1 D.nx) := h
  refine wpAny_bind (thn (dc_core (Qf := fun _ s' => SP X pins D .next s') hc hN I hi ok hg ht hk he hs h fun L C s' m H' I' q hn f => ?_) fun _ s' hq => wpAny_pure (wpAny_pure hq))
  show wpAny _ _ (assign (.Name y py) X.env (.ref L)) _ _ _
  refine wpAny_assign_Name (store_ok2 (v := V.ref L) I' hN hy (.inl hyl) rfl (fun s2 I2 ⟨a, sb, ha⟩ => ?_) (.inr hyl))
  obtain ⟨f0, f1, f2, f3, f4, f5⟩ := f
  have haC : C ≠ a := by
    rcases ha with z | z
    · rw [z]; exact f1
    · exact fun e => f4 y a z e.symm
  refine ⟨m, hn.sameBut sb haC, fun h3 sb3 => ?_⟩
  exact ⟨_, H', I2.turned (t' := s2.toks) (fun b o hb e => (sb3.2 b hb).trans e) f0 f1 f3 f4 f5, q⟩
theorem sw_dc {kx vx : Expr} {gs : List Comprehension} {scope : Scope} {pos py : Pos} {y : Str} {l : Nat} {env : Env} (hk : env.scope.kind = .function) (hy : env.scope.names.lookup y = some .local) (hl : (py.line == pos.line) = true)
    (ha : (scope.names.any fun (n, k) => n == y && (k == .local || k == .cell)) = false) : swapsWith (.DictComp kx vx gs scope pos) (some (.Name y py)) l env = pure true := by
  have ky : env.kindOf y = some .local := hy
  have hb : env.blockKind = .function := by unfold Env.blockKind; rw [hk]; rfl
  unfold swapsWith
  simp only [hb, ky, ha, Expr.pos, hl]
  rfl
end
end KL
end
section
set_option Elab.async false
set_option linter.all false
set_option maxRecDepth 100000
/-! KA25: the look at statements. -/
namespace KL
open PySem PySem.Spec PyProof.Rows L2
def isComp : Expr → Bool
  | .ListComp _ _ _ _ => true
  | .SetComp _ _ _ _ => true
  | .DictComp _ _ _ _ _ => true
  | _ => false
theorem sw_no {v : Expr} {t : Option Expr} {l : Nat} {env : Env} (h : isComp v = false) : swapsWith v t l env = pure false := by
  cases v <;> first | rfl | cases h
theorem sw_cell {v : Expr} {y : Str} {py : Pos} {l : Nat} {env : Env} (hy : env.scope.names.lookup y = some .cell) : swapsWith v (some (.Name y py)) l env = pure false := by
  have ky : env.kindOf y = some .cell := hy
  cases v <;> first
    | rfl
    | (unfold swapsWith; simp only [ky, show (some NameKind.cell == some NameKind.local) = false from rfl, Bool.and_false, Bool.false_and])
def locNm (N : List Str) (sc : Scope) (i : Nat) (nm : Str) : Bool := decide (N[i]? = some nm) && decide (sc.names.lookup nm = some .local) && plainNm nm
/-! ### a handler's list -/
def hitsB (sc : Scope) (G : Cfg) (n fld : Str) : List Hit → List Expr → Bool
  | [], [] => true
  | .str s :: hs, .Constant (.str t) _ _ :: xs => decide (s = t) && hitsB sc G n fld hs xs
  | .fld :: hs, .Attribute (.Name n' _) f _ :: xs => decide (n' = n) && decide (f = fld) && hitsB sc G n fld hs xs
  | .isc c :: hs, .Call (.Name b _) [.Name n' _, .Name cn _] [] _ :: xs => decide (b = Str.ofString "isinstance") && glbB sc b && decide (n' = n) && glbB sc cn && plainNm cn && decide ((G.excs[c]?).map (·.1) = some cn) && hitsB sc G n fld hs xs
  | _, _ => false
section
variable (G : Cfg)
mutual
def cS (sc : Scope) (top : Bool) : Sx → Stmt → Bool
  | .set i e, st => (match st with
    | .Assign [.Name nm np] v sp => (locNm G.N sc i nm && cE G sc e v && (match e, v with
      | .dcm _ _ _ _ _, .DictComp _ _ _ scope pos => (np.line == pos.line) && !(scope.names.any fun (n, k) => n == nm && (k == .local || k == .cell)) && decide (sc.kind = .function)
      | _, v => !isComp v)) || (decide (G.N[i]? = some nm) && decide (sc.names.lookup nm = some .cell) && plainNm nm && cE G sc e v)
    | _ => false)
  | .many is e, st => (match st with | .Assign [.Tuple xs _ _] v sp => nmsB G.N sc is xs && !isTup v && cE G sc e v | _ => false)
  | .setix i k e, st => (match st with | .Assign [.Subscript (.Name nm _) kx _] v _ => nmB G.N sc i nm && plainIxB kx && !isComp v && cE G sc k kx && cE G sc e v | _ => false)
  | .app _ i e, st => (match st with | .Expr (.Call (.Attribute (.Name nm _) at_ ap) [x] [] cp) _ => nmB G.N sc i nm && decide (at_ = Str.ofString "append") && (ap.endLine == cp.line) && !starB x && cE G sc e x | _ => false)
  | .exp e, st => (match st with | .Expr x _ => !isComp x && cE G sc e x | _ => false)
  | .ret e, st => (match st with | .Return (some x) _ => cE G sc e x | _ => false)
  | .retv i, st => (match st with | .Return (some (.Name nm _)) _ => nmB G.N sc i nm | _ => false)
  | .retn, st => (match st with | .Return none _ => true | _ => false)
  | .ife t a b, st => (match st with | .If x ss rs _ => cE G sc t x && tstOk t && cSs sc top a ss && cSs sc top b rs | _ => false)
  | .for_ it tg b, st => (match st with | .For tgE itE body [] _ => !setB itE && tgB G.N sc tg tgE && cW G sc (isTup tgE) it itE && cSs sc false b body | _ => false)
  | .whl t b, st => (match st with | .While x body [] _ => cE G sc t x && tstOk t && cSs sc false b body | _ => false)
  | .brk, st => (match st with | .Break _ => true | _ => false)
  | .cnt, st => (match st with | .Continue _ => true | _ => false)
  | .pas, st => (match st with | .Pass _ => true | _ => false)
  | .rai c e, st => (match st with
    | .Raise (some (.Call (.Name nm _) [x] [] _)) none _ => decide ((G.excs[c]?).map (·.1) = some nm) && glbB sc nm && plainNm nm && !starB x && cE G sc e x
    | _ => false)
  | .try_ b c i j hs, st => (match st with
    | .Try body [.ExceptHandler (some (.Name nm _)) (some n) [.Assign [.Name tn _] (.List xs _) _] _] [] [] _ => (match G.excs[c]? with | some (nm', fld) => decide (nm' = nm) && hitsB sc G n fld hs xs | none => false) && glbB sc nm && plainNm nm && locNm G.N sc i n && locNm G.N sc j tn && decide (hs.length ≤ 30) && cSs sc top b body
    | _ => false)
  | .scrap n i, st => top && (match st with
    | .Expr (.Call (.Attribute (.Subscript (.Name nm _) (.Constant (.int 0) _ _) _) at_ ap) [.Constant (.int 0) _ _] [] cp) _ => nmB G.N sc i nm && decide (at_ = Str.ofString "append") && (ap.endLine == cp.line)
    | _ => false)
  | _, _ => false
def cSs (sc : Scope) (top : Bool) : Sxs → List Stmt → Bool
  | .nil, sts => sts.isEmpty
  | .cons (.frz i) ss, sts => cSs sc top ss sts
  | .cons s ss, sts => (match sts with | st :: r => cS sc top s st && cSs sc top ss r | [] => false)
end
end
end KL
end
section
set_option Elab.async false
set_option linter.all false
set_option maxRecDepth 100000
set_option maxHeartbeats 1000000
/-! KX4: raise and try. -/
namespace KL
open PySem PySem.Spec PyProof.Rows L2
theorem passF {X : Cx} : Passes (L2.CX X.prog X.w) X (fun _ _ _ => False) := fun _ _ _ _ _ _ _ h => by
  obtain ⟨_, _, _, _, _, _, _, _, _, _, _, _, z⟩ := h
  exact z.elim
section
variable {Θ : Pm} {g : Gm} {G : Cfg} {P pr : List Nat} {W W0 : WX} {X : Cx} {x : Expr} {B F F' F1 H H' H1 : Hp} {A A' A1 : Ad} {T : List Addr} {ρ ρ' ρ1 ρ2 : Rho} {σ σ' σ2 : L2.St} {a : Addr} {i : Nat} {o : Opd} {v : V} {pos : Pos} {D : Ends} {N : Ent} {top : Bool} {st : Stmt} {sts : List Stmt}
/-- raise C(e) -/
theorem st_rai {r : Rho → Rr Opd} {nm fld : Str} {c : Nat} {p1 p2 : Pos} (hG : Glb Θ g G X) (tk : Takes X W) (hgl : Gl X nm) (hdb : (nm == ("__debug__" : Str)) = false) (hst : starB x = false) (hr : ∀ ρ o ρ', r ρ = .ok o ρ' → ∃ s, o = .imm s) (h : PE X x (tG Θ r P W)) (hc : G.excs[c]? = some (nm, fld)) :
    PS X (.Raise (some (.Call (.Name nm p1) [x] [] p2)) none pos) (tSt Θ top (fun _ ρ => (r ρ).out fun v ρ => .ex (.obj c [v.sv.val]) ρ) P pr W) := by
  obtain ⟨hcf, hmg, T, ⟨fI, fd, ps, iC, tI, F1, hb⟩, xf, hno, ec, hexm⟩ := hG.exc c nm fld hc
  refine PS.weak (ps_raise hG.calm tk (pmk_oex (dvs := []) (ds := []) T iC tI F1 hG.room hb .nil passF hgl hmg (pa_cons (PE.opd h) pa_nil (star_one hst)) hdb (star_one hst) rfl)) fun D σ H ⟨N, F, A, ρ, ρ0, _, _, a, q⟩ => ?_
  replace q : Gs Θ P pr N W D ((r ρ).out fun v ρ => .ex (.obj c [v.sv.val]) ρ) := q
  show tO Θ r P W σ H _
  refine ⟨N.B, F, A, ρ, a.1, ?_⟩
  cases hr1 : r ρ with
  | bad => rw [hr1] at q; exact q.elim
  | exc p ρ' =>
    rw [hr1] at q
    intro c d F' H' A' S' f' e'
    exact (show exS Θ P pr N W p ρ' from q) c d F' H' A' σ (a.on S' f') e'
  | ok ov ρ1 =>
    rw [hr1] at q
    intro y F1 H1 A1 S1 f1 r1
    have a1 := a.on S1 f1
    obtain ⟨sv, rfl⟩ := hr _ _ _ hr1
    have r1 : Rep Θ.K F1 sv.val y := r1
    have q : exS Θ P pr N W (.obj c [sv.val]) ρ1 := q
    show ([y] : List V).length ≤ 1000 ∧ _
    refine ⟨by simp, fun e ne => ?_⟩
    refine ⟨e, y, rfl, upd_same, fun d nd de => ⟨rfl, d, [(fld, y)], upd_same, ?_, ?_, ?_⟩⟩
    · rw [upd_ne de, upd_same]
    · rw [upd_ne de] at nd; exact nd
    · have nd1 : H1 d = none := by rw [upd_ne de] at nd; exact nd
      have eH : upd (L2.del (upd (upd (upd H1 e (exo e (Θ.ca c) none)) d (exd d [(fld, y)])) e (exo e (Θ.ca c) (some d))) e) d (.xd [(fld, y)]) = upd H1 d (.xd [(fld, y)]) := by
        funext b
        by_cases hbd : b = d
        · subst hbd; rw [upd_same, upd_same]
        · rw [upd_ne hbd, upd_ne hbd]
          by_cases hbe : b = e
          · subst hbe; rw [del_same, ne]
          · rw [del_ne hbe, upd_ne hbe, upd_ne hbd, upd_ne hbe]
      rw [eH]
      exact q _ _ F1 _ A1 σ (a1.on (S1.newH nd1) (Frm.newH nd1).drop) ⟨rfl, d, y, rfl, by rw [hcf]; exact upd_same, r1⟩
/-- a slot's thing forgotten -/
theorem Sta.forget {w : Option V} (S : Sta Θ.K P B F H A ρ σ) : ∃ A2, Sta Θ.K P B F H A2 (ρ.set i .un) (σ.set i w) ∧ Frm F H A F H A2 [] := by
  by_cases hi : i < ρ.length
  · refine ⟨_, S.put (i := i) (s' := .un) (o' := w) (as' := []) S.ext (Evl.Ex.refl _) (fun _ _ _ _ q => q) (fun _ _ _ _ _ q => q) hi rfl List.nodup_nil (fun _ _ _ _ z => nomatch z) (fun _ _ z => nomatch z) S.mono (fun _ z => nomatch z), Evl.Ex.refl _, fun a o h1 h2 _ => ⟨h1, h2⟩, fun b hb => ?_, (fun _ z => nomatch z), fun _ z => z⟩
    rcases oa_set hb with hb | ⟨j, _, hb⟩
    · cases hb
    · exact .inl ⟨j, hb⟩
  · have e1 : ρ.set i .un = ρ := by rw [List.set_eq_of_length_le]; omega
    have e2 : σ.set i w = σ := by rw [List.set_eq_of_length_le]; rw [← S.len]; omega
    rw [e1, e2]
    exact ⟨A, S, Frm.refl _ _ _⟩
/-! ### a handler's list -/
/-- the reading of the items: c the error's class, v its field -/
def tHits (Θ : Pm) (i c : Nat) (fld : Str) (a : Addr) (cls : Value) (d : Option Addr) (hs : List Hit) : TA := fun σ H Q =>
  σ[i]? = some (some (.ref a)) ∧ cls = .ref (Θ.ca c) ∧ (∃ dd y, d = some dd ∧ H dd = some (.xd [(fld, y)]) ∧ Q (hs.map fun | .str s => .str s | .fld => y | .isc k => .bl (decide (k = c))) H)
theorem hits_pa {oe : Obj} {cls : Value} {d : Option Addr} {pn : List (Addr × Obj)} {n nm fld : Str} {c : Nat} {a : Addr} (hG : Glb Θ g G X) {sc : Scope} (hs : X.env.scope = sc) (hc : G.excs[c]? = some (nm, fld)) (hN : X.N[i]? = some n) (hvi : Vis sc n) (hd : (n == ("__debug__" : Str)) = false) (hcd : (n == ("__classdict__" : Str)) = false)
    (hz : Zc cls d oe) (hf : ∃ vs, oe.data = .fields vs) : ∀ {his : List Hit} {xs : List Expr}, hitsB sc G n fld his xs = true → PA (X.suite a ((a, oe) :: pn)) xs (tHits Θ i c fld a cls d his)
  | [], [], _ => PA.weak pa_nil fun σ H Q ⟨_, _, _, _, _, _, q⟩ => q
  | .str s :: his, x :: xs, h => by
    match x, h with
    | .Constant (.str t) _ _, h =>
      simp only [hitsB, Bool.and_eq_true, decide_eq_true_eq] at h
      obtain ⟨rfl, h⟩ := h
      exact PA.weak (pa_cons pe_str (hits_pa hG hs hc hN hvi hd hcd hz hf h)) fun σ H Q ⟨e1, e2, dd, y, e3, e4, q⟩ => ⟨e1, e2, dd, y, e3, e4, q⟩
  | .fld :: his, x :: xs, h => by
    match x, h with
    | .Attribute (.Name n' p) f _, h =>
      simp only [hitsB, Bool.and_eq_true, decide_eq_true_eq] at h
      obtain ⟨⟨rfl, rfl⟩, h⟩ := h
      obtain ⟨hcf, hmg, T, _, xf, hno, ec, hexm⟩ := hG.exc c nm _ hc
      exact PA.weak (pa_cons (pe_xf (X := X) xf hno hz hf (pe_var (X := X.suite a ((a, oe) :: pn)) (i := i) hN (by show Vis X.env.scope _; rw [hs]; exact hvi) hd hcd) (base_ok rfl)) (hits_pa hG hs hc hN hvi hd hcd hz hf h)) fun σ H Q ⟨e1, e2, dd, y, e3, e4, q⟩ =>
        ⟨.ref a, e1, rfl, e2, dd, _, y, e3, e4, by simp, e1, e2, dd, y, e3, e4, q⟩
  | .isc k :: his, x :: xs, h => by
    match x, h with
    | .Call (.Name b _) [.Name n' _, .Name cn _] [] _, h =>
      simp only [hitsB, Bool.and_eq_true, decide_eq_true_eq] at h
      obtain ⟨⟨⟨⟨⟨⟨rfl, h1⟩, rfl⟩, h3⟩, h4⟩, h5⟩, h⟩ := h
      obtain ⟨hcf, hmg, T, _, xf, hno, ec, hexm⟩ := hG.exc c nm _ hc
      cases hk : G.excs[k]? with
      | none => rw [hk] at h5; cases h5
      | some p =>
        obtain ⟨cn', fk⟩ := p
        rw [hk] at h5
        cases h5
        have hkm := (hG.exc k _ _ hk).mg
        exact PA.weak (pa_cons (pe_callB (X := X.suite a ((a, oe) :: pn)) (call_isD hz hf) (glb_ok hs h1) (hG.blt _ (by decide)) (by decide +kernel)
            (pa_cons (pe_var (X := X.suite a ((a, oe) :: pn)) (i := i) hN (by show Vis X.env.scope _; rw [hs]; exact hvi) hd hcd) (pa_cons (pe_glob (X := X.suite a ((a, oe) :: pn)) (v := .ref (Θ.ca k)) (glb_ok (X := X) hs h3) hkm rfl (plainNm_ok h4).1) pa_nil)) (by decide) (by decide)) (hits_pa hG hs hc hN hvi hd hcd hz hf h)) fun σ H Q ⟨e1, e2, dd, y, e3, e4, q⟩ =>
          ⟨_, e1, Θ.ca c, .ref (Θ.ca k), .ref (Θ.ca k), decide (k = c), dd, _, rfl, fun u hu => hu, e2, ec, e3, e4, hG.kit c k _ _ hc hk, e1, e2, dd, y, e3, e4, q⟩
  | [], _ :: _, h => by simp [hitsB] at h
  | .str _ :: _, [], h => by simp [hitsB] at h
  | .fld :: _, [], h => by simp [hitsB] at h
  | .isc _ :: _, [], h => by simp [hitsB] at h
/-- try: body / except C as n: told = [..] -/
theorem st_try {rb : Rho → Rho → Outc} {body : List Stmt} {n nm fld tn : Str} {c j : Nat} {his : List Hit} {xs : List Expr} {np tp lp sp pos' : Pos} {sc : Scope} (hG : Glb Θ g G X) (hsc : X.env.scope = sc) (hs : X.stack = X.env :: X.outer) (hf : X.env.frame = some X.env.locals) (hPp : ∀ j ∈ P, j ∈ pr) (hc : G.excs[c]? = some (nm, fld))
    (hi : X.N[i]? = some n) (hln : sc.names.lookup n = some .local) (hpn : plainNm n = true) (hj : X.N[j]? = some tn) (hlt : sc.names.lookup tn = some .local) (hgl : Gl X nm) (hdb : (nm == ("__debug__" : Str)) = false) (tk : Takes X W) (hhi : hitsB sc G n fld his xs = true) (hlen : his.length ≤ 30)
    (hb : ∀ (W : WX) (pn : List (Addr × Obj)) (xe : Value → Shared → Prop), Takes (X.tr pn xe) W → PassesOwn (model X.prog X.w) X.A X.env xe → PSs (X.tr pn xe) body (tSt Θ top rb P pr W)) :
    PS X (.Try body [.ExceptHandler (some (.Name nm np)) (some n) [.Assign [.Name tn tp] (.List xs lp) sp] pos'] [] [] pos) (tSt Θ top (fun ρ0 ρ => match rb ρ0 ρ with | .ex p ρ => tryEnd pr c i j his p ρ | o => o) P pr W) := by
  obtain ⟨hcf, hmg, T, _, xf, hno, ec, hexm⟩ := hG.exc c nm fld hc
  have hvi : Vis sc n := .inl hln
  refine PS.weak (ps_try_as (tb := fun W => tSt Θ top rb P pr W) (ts := fun a cls d => tSeq (tAsg (tLst (tHits Θ i c fld a cls d his)) (gName j)) tNext) hs hf hG.nd hi (by show X.env.scope.names.lookup n = _; rw [hsc]; exact hln) ⟨hgl, hdb, .inl hmg⟩ tk hb fun a oe cls d pn hz hfl => ?_) fun D σ H ⟨N, F, A, ρ, ρ0, S0, ht, a, q⟩ => ?_
  · exact pss_cons (ps_set (X := X.suite a ((a, oe) :: pn)) (i := j) hG.nd hj (.inl (by show X.env.scope.names.lookup tn = _; rw [hsc]; exact hlt)) (pe_lst (hits_pa hG hsc hc hi hvi (plainNm_ok hpn).1 (plainNm_ok hpn).2 hz hfl hhi)) rfl (.inr (by show X.env.scope.names.lookup tn = _; rw [hsc]; exact hlt))) pss_nil
  · replace q : Gs Θ P pr N W D (match rb ρ0 ρ with | .ex p ρ => tryEnd pr c i j his p ρ | o => o) := q
    refine ⟨N, F, A, ρ, ρ0, S0, ht, a, ?_⟩
    cases hr : rb ρ0 ρ with
    | nx ρ' => rw [hr] at q; exact q
    | rt v ρ' => rw [hr] at q; exact q
    | bk ρ' => rw [hr] at q; exact q
    | ct ρ' => rw [hr] at q; exact q
    | bad => rw [hr] at q; exact q
    | ex p ρ1 =>
      rw [hr] at q
      replace q : Gs Θ P pr N W D (tryEnd pr c i j his p ρ1) := q
      intro cls d F' H' A' σ1 a1 e1
      match p, q, e1 with
      | .obj k [v], q, e1 =>
        replace q : Gs Θ P pr N W D (if c = k ∧ i < ρ1.length ∧ i ≠ j ∧ pr.contains i = false ∧ pr.contains j = false then .nx ((ρ1.set j (.own (.lst (his.map (hitV k v))))).set i .un) else .bad) := q
        split at q
        · rename_i hcond
          obtain ⟨rfl, hil, hij, hpi, hpj⟩ := hcond
          obtain ⟨rfl, dd, y, rfl, hdd, hrep⟩ := e1
          have hK := hG.hK
          refine ⟨true, hexm, fun _ a0 na0 => ?_, fun z => nomatch z⟩
          have hli : i < σ1.length := by rw [← a1.1.len]; exact hil
          refine ⟨by rw [List.getElem?_set_self hli], rfl, dd, y, rfl, by rw [← hcf]; exact hdd, ?_, fun pp npp => ?_⟩
          · rw [List.length_map, sizeLine_eq]; omega
          · have reps : ∀ hs : List Hit, Reps Θ.K F' (hs.map (hitV c v)) (hs.map fun | .str s => V.str s | .fld => y | .isc k => V.bl (decide (k = c))) := fun hs => by
              induction hs with
              | nil => exact Reps.nil
              | cons x xs ih =>
                cases x with
                | str s => exact Reps.cons (by simp [Rep, hitV]) ih
                | fld => exact Reps.cons hrep ih
                | isc k => exact Reps.cons (by simp [Rep, hitV]) ih
            obtain ⟨A2, S2, f2⟩ := set_res (s := .own (.lst (his.map (hitV c v)))) (i := j) (σ' := σ1) a1.1 (a1.1.newH npp) (Frm.newH npp) (TOk.newH a1.1 npp) ⟨pp, rfl, rfl, _, upd_same, reps his⟩ (fun z => not_in hpj (hPp j z))
            obtain ⟨A3, S3, f3⟩ := S2.forget (i := i) (w := none)
            have es : ((σ1.set i (some (V.ref a0))).set j (some (V.ref pp))).set i none = (σ1.set j (some (V.ref pp))).set i none := by
              rw [List.set_comm _ _ hij, List.set_set]
            show D.nx (((σ1.set i (some (V.ref a0))).set j (some (V.ref pp))).set i none) _
            rw [es]
            exact (show nxS Θ P pr N D.nx _ from q) F' _ A3 _ ⟨S3, a1.2.1.trans (f2.trans f3), keep_set (keep_set a1.2.2 (not_in hpj)) (not_in hpi)⟩
        · exact q.elim
      | .obj k [], q, e1 => exact q.elim
      | .obj k (_ :: _ :: _), q, e1 => exact q.elim
      | .non, q, e1 => exact q.elim
      | .bl _, q, e1 => exact q.elim
      | .int _, q, e1 => exact q.elim
      | .str _, q, e1 => exact q.elim
      | .lst _, q, e1 => exact q.elim
      | .tup _, q, e1 => exact q.elim
      | .dct _, q, e1 => exact q.elim
      | .scr _, q, e1 => exact q.elim
end
end KL
end
section
set_option Elab.async false
set_option linter.all false
set_option maxRecDepth 100000
/-! KA26: what passes the look runs as the evaluator says: statements (under way). -/
namespace KL
open PySem PySem.Spec PyProof.Rows L2
theorem cSs_cons {G : Cfg} {sc : Scope} {top : Bool} {s : Sx} {ss : Sxs} {sts : List Stmt} (hf : ∀ i, s ≠ .frz i) (h : cSs G sc top (.cons s ss) sts = true) : ∃ st r, sts = st :: r ∧ cS G sc top s st = true ∧ cSs G sc top ss r = true := by
  cases sts with
  | nil => exfalso; cases s <;> first | exact absurd rfl (hf _) | simp [cSs] at h
  | cons st r =>
    refine ⟨st, r, rfl, ?_⟩
    cases s <;> first | exact absurd rfl (hf _) | simpa only [cSs, Bool.and_eq_true] using h
/-- the context is a def's own body -/
structure OwnX (X : Cx) : Prop where
  pass : PassesOwn (model X.prog X.w) X.A X.env X.xe
  stk : X.stack = X.env :: X.outer
  frm : X.env.frame = some X.env.locals
  fn : ∀ x, X.fn x = true
theorem Glb.tr {Θ : Pm} {g : Gm} {G : Cfg} {X : Cx} (h : Glb Θ g G X) (pn : List (Addr × Obj)) (xe : Value → Shared → Prop) : Glb Θ g G (X.tr pn xe) :=
  ⟨h.hK, h.calm, h.units, h.nd, h.hN, h.blt, h.fn, h.lent, h.back, h.backx, fun c nm fld e => ⟨(h.exc c nm fld e).cf, (h.exc c nm fld e).mg, (h.exc c nm fld e).T, (h.exc c nm fld e).ini, (h.exc c nm fld e).xf, (h.exc c nm fld e).no, (h.exc c nm fld e).ec, (h.exc c nm fld e).exm⟩, h.kit, h.room⟩
theorem locNm_ok {N : List Str} {sc : Scope} {i : Nat} {nm : Str} (h : locNm N sc i nm = true) : N[i]? = some nm ∧ sc.names.lookup nm = some .local ∧ plainNm nm = true := by
  unfold locNm at h
  simp only [Bool.and_eq_true, decide_eq_true_eq] at h
  exact ⟨h.1.1, h.1.2, h.2⟩
section
variable {Θ : Pm} {g : Gm} {G : Cfg} {P : List Nat}
mutual
theorem st_ok : ∀ (s : Sx) {X : Cx} {W : WX} {sc : Scope} {top : Bool} {pr : List Nat} {st : Stmt}, Glb Θ g G X → X.env.scope = sc → Takes X W → OwnX X → (∀ j ∈ P, j ∈ pr) → cS G sc top s st = true → PS X st (tSt Θ top (fun ρ0 ρ => execS g pr ρ0 s ρ) P pr W)
  | .exp e, X, W, sc, top, pr, st, hG, hs, tk, hp, hP, h => by
    simp only [cS] at h
    split at h
    · simp only [Bool.and_eq_true, Bool.not_eq_true'] at h
      have e' : (fun ρ0 ρ => execS g pr ρ0 (.exp e) ρ) = fun _ ρ => (evalE g .val e ρ).out fun _ ρ => .nx ρ := by funext ρ0 ρ; simp only [execS]
      rw [e']; exact st_exp (xp_ok e hG hs tk h.2).1 (sw_no h.1)
    · cases h
  | .ret e, X, W, sc, top, pr, st, hG, hs, tk, hp, hP, h => by
    simp only [cS] at h
    split at h
    · have e' : (fun ρ0 ρ => execS g pr ρ0 (.ret e) ρ) = fun _ ρ => (evalE g .val e ρ).out fun o ρ => .rt o.sv ρ := by funext ρ0 ρ; simp only [execS]
      rw [e']; exact st_ret (fun _ _ _ z => val_imm e z) (xp_ok e hG hs tk h).1
    · cases h
  | .ife t a b, X, W, sc, top, pr, st, hG, hs, tk, hp, hP, h => by
    simp only [cS] at h
    split at h
    · simp only [Bool.and_eq_true] at h
      have e' : (fun ρ0 ρ => execS g pr ρ0 (.ife t a b) ρ) = fun ρ0 ρ => (evalE g .tst t ρ).out fun c ρ => if c.tru then execSs g pr ρ0 a ρ else execSs g pr ρ0 b ρ := by funext ρ0 ρ; simp only [execS]
      rw [e']; exact st_if ((xp_ok t hG hs tk h.1.1.1).2.2 h.1.1.2) (ss_ok a hG hs tk hp hP h.1.2) (ss_ok b hG hs tk hp hP h.2)
    · cases h
  | .for_ it tg b, X, W, sc, top, pr, st, hG, hs, tk, hp, hP, h => by
    simp only [cS] at h
    split at h
    · simp only [Bool.and_eq_true, Bool.not_eq_true'] at h
      obtain ⟨⟨⟨h1, h2⟩, h3⟩, h4⟩ := h
      have hw := xw_ok (P := P) it hG hs tk h3
      have hb : ∀ pr', (∀ j ∈ pr, j ∈ pr') → PSs X _ (tSt Θ false (fun ρ0 ρ => execSs g pr' ρ0 b ρ) P pr' W) := fun pr' hpr => ss_ok b hG hs tk hp (fun j hj => hpr j (hP j hj)) h4
      have e' : (fun ρ0 ρ => execS g pr ρ0 (.for_ it tg b) ρ) = fun ρ0 ρ => (evalIt g it ρ).out fun xs ρ => if apart (tgSlots tg) (xs.2 ++ pr) then (forL tg (fun ρ' => execSs g (xs.2 ++ pr) ρ0 b ρ') xs.1 (wipeR ρ xs.2)).bak ρ xs.2 else .bad := by funext ρ0 ρ; simp only [execS]
      rw [e']; exact st_for (rb := fun pr' ρ0 ρ => execSs g pr' ρ0 b ρ) hG.hK hp.pass hG.calm hw (tg_pg hG hs h2) hb (fold_ok h1)
    · cases h
  | .whl t b, X, W, sc, top, pr, st, hG, hs, tk, hp, hP, h => by
    simp only [cS] at h
    split at h
    · simp only [Bool.and_eq_true] at h
      have e' : (fun ρ0 ρ => execS g pr ρ0 (.whl t b) ρ) = fun ρ0 ρ => whlN (fun ρ => (evalE g .tst t ρ).bnd fun o ρ => .ok o.tru ρ) (fun ρ => execSs g pr ρ0 b ρ) fuel ρ := by funext ρ0 ρ; simp only [execS]
      rw [e']; exact st_while hp.pass ((xp_ok t hG hs tk h.1.1).2.2 h.1.2) (ss_ok b hG hs tk hp hP h.2)
    · cases h
  | .brk, X, W, sc, top, pr, st, hG, hs, tk, hp, hP, h => by
    simp only [cS] at h
    split at h
    · have e' : (fun ρ0 ρ => execS g pr ρ0 .brk ρ) = fun _ ρ => Outc.bk ρ := by funext ρ0 ρ; simp only [execS]
      rw [e']; exact st_brk
    · cases h
  | .cnt, X, W, sc, top, pr, st, hG, hs, tk, hp, hP, h => by
    simp only [cS] at h
    split at h
    · have e' : (fun ρ0 ρ => execS g pr ρ0 .cnt ρ) = fun _ ρ => Outc.ct ρ := by funext ρ0 ρ; simp only [execS]
      rw [e']; exact st_cnt
    · cases h
  | .pas, X, W, sc, top, pr, st, hG, hs, tk, hp, hP, h => by
    simp only [cS] at h
    split at h
    · have e' : (fun ρ0 ρ => execS g pr ρ0 .pas ρ) = fun _ ρ => Outc.nx ρ := by funext ρ0 ρ; simp only [execS]
      rw [e']; exact st_pass
    · cases h
  | .retn, X, W, sc, top, pr, st, hG, hs, tk, hp, hP, h => by
    simp only [cS] at h
    split at h
    · have e' : (fun ρ0 ρ => execS g pr ρ0 .retn ρ) = fun _ ρ => Outc.rt (.shr .non) ρ := by funext ρ0 ρ; simp only [execS]
      rw [e']; exact st_retn
    · cases h
  | .set i e, X, W, sc, top, pr, st, hG, hs, tk, hp, hP, h => by
    simp only [cS] at h
    split at h
    · rename_i nm np v sp
      have e' : (fun ρ0 ρ => execS g pr ρ0 (.set i e) ρ) = fun _ ρ => (evalE g .val e ρ).out fun o ρ => setSlot pr i o.sv ρ := by funext ρ0 ρ; simp only [execS]
      rw [e']
      rcases Bool.or_eq_true_iff.mp h with h | h
      case inr =>
        simp only [Bool.and_eq_true, decide_eq_true_eq] at h
        obtain ⟨⟨⟨q1, q2⟩, q3⟩, h2⟩ := h
        have qn : X.N[i]? = some nm := by rw [hG.hN]; exact q1
        have ql : X.env.scope.names.lookup nm = some .cell := by rw [hs]; exact q2
        exact st_setTE hP (fun _ _ _ z => val_imm e z) (ps_set hG.nd qn (.inr ql) (xp_ok e hG hs tk h2).1 (sw_cell ql) (.inl (hp.fn nm))) fun _ _ _ q => q
      simp only [Bool.and_eq_true] at h
      obtain ⟨⟨h1, h2⟩, h3⟩ := h
      obtain ⟨q1, q2, q3⟩ := locNm_ok h1
      have qn : X.N[i]? = some nm := by rw [hG.hN]; exact q1
      have ql : X.env.scope.names.lookup nm = some .local := by rw [hs]; exact q2
      split at h3
      · rename_i it tg own k v kx vx gs scope pos
        simp only [Bool.and_eq_true, Bool.not_eq_true', decide_eq_true_eq] at h3
        obtain ⟨⟨h4, h5⟩, h6⟩ := h3
        simp only [cE] at h2
        split at h2
        · rename_i kx vx tgE itE scope pos heq
          cases heq
          simp only [Bool.and_eq_true, Bool.not_eq_true'] at h2
          obtain ⟨⟨⟨⟨⟨⟨c1, c2⟩, c3⟩, c4⟩, c5⟩, c6⟩, c7⟩ := h2
          have ok : BlkOk X.N X.env.scope scope (ownP G.N own) := by rw [hG.hN, hs]; exact blkOk_by c1
          have hi := xw_ok (P := P) it hG hs tk c5
          have hr := ps_setDc (py := np) (spos := sp) (i := i) (y := nm) (pos := pos) (g := tgG X.K tg) hG.calm hG.nd qn ql (sw_dc (by rw [hs]; exact h6) ql h4 h5) hi ok (fun s H C cl fp => tg_pg (hG.blk s H scope (compEnvC scope cl C X.env) fp) (by rw [← hs]; rfl) c3)
            (fun s H C cl fp => pts_nil)
            (fun s H C cl fp => PE.opd (xp_ok (P := P) k (hG.blk s H scope (compEnvC scope cl C X.env) fp) (by rw [← hs]; rfl) takes_blk c6).1)
            (fun s H C cl fp => PE.opd (xp_ok (P := P) v (hG.blk s H scope (compEnvC scope cl C X.env) fp) (by rw [← hs]; rfl) takes_blk c7).1) (fold_ok c4)
          rw [ownP_snd] at hr
          refine st_setTE hP (fun _ _ _ z => val_imm _ z) hr fun σ H Q q => ?_
          have ev : evalE g .val (.dcm it tg own k v) = vR (dcV (evalIt g it) tg own (dbodyR (evalE g .val k) (evalE g .val v))) := by funext ρ; simp only [evalE]; rfl
          rw [ev] at q
          exact dc_run hG.hK (fun _ _ _ z => val_imm k z) (fun _ _ _ z => val_imm v z) (subB_ok c2) q
        · cases h2
      · exact st_setTE hP (fun _ _ _ z => val_imm e z) (ps_set hG.nd qn (.inl ql) (xp_ok e hG hs tk h2).1 (sw_no (by simpa using h3)) (.inr ql)) fun _ _ _ q => q
    · cases h
  | .many is e, X, W, sc, top, pr, st, hG, hs, tk, hp, hP, h => by
    simp only [cS] at h
    split at h
    · rename_i xs k tp v sp
      simp only [Bool.and_eq_true, Bool.not_eq_true'] at h
      obtain ⟨⟨h1, h2⟩, h3⟩ := h
      rw [← hG.hN] at h1
      have e' : (fun ρ0 ρ => execS g pr ρ0 (.many is e) ρ) = fun _ ρ => (evalE g .val e ρ).out fun o ρ => if is.all (fun i => !pr.contains i) then (match o.sv.val with
        | .tup vs => (match bindMany is vs ρ with | some ρ => .nx ρ | none => .bad)
        | .lst vs => (match bindMany is vs ρ with | some ρ => .nx ρ | none => .bad)
        | _ => .bad) else .bad := by funext ρ0 ρ; simp only [execS] <;> rfl
      rw [e']; exact st_many hG.hK hG.calm hG.nd (fun _ _ _ z => val_imm e z) (nmsB_ok hs h1) (xp_ok e hG hs tk h3).1 (by cases v <;> rfl) (by cases v <;> first | rfl | cases h2) rfl
    · cases h
  | .setix i k e, X, W, sc, top, pr, st, hG, hs, tk, hp, hP, h => by
    simp only [cS] at h
    split at h
    · rename_i nm np kx tp v sp
      simp only [Bool.and_eq_true, Bool.not_eq_true'] at h
      obtain ⟨⟨⟨⟨h1, h2⟩, h3⟩, h4⟩, h5⟩ := h
      obtain ⟨q1, q2, q3, q4⟩ := nmB_ok h1
      have q1 : X.N[i]? = some nm := by rw [hG.hN]; exact q1
      have q2 : Vis X.env.scope nm := by rw [hs]; exact q2
      have e' : (fun ρ0 ρ => execS g pr ρ0 (.setix i k e) ρ) = fun _ ρ => (evalE g .val e ρ).out fun v ρ => if isOwnAt ρ i then (evalE g .val k ρ).out fun k ρ => setOwn (setIx k.sv.val v.sv.val) i ρ else .bad := by funext ρ0 ρ; simp only [execS]
      rw [e']; exact st_setix hG.hK (by have := hG.units; omega) (fun _ _ _ z => val_imm e z) (fun _ _ _ z => val_imm k z) (xp_ok e hG hs tk h5).1 (xp_ok k hG hs tk h4).1 q1 q2 q3 q4 (by cases kx <;> first | (intro v; rfl) | cases h2) (by cases v <;> first | rfl | cases h3) (by cases v <;> rfl) rfl
    · cases h
  | .app d i e, X, W, sc, top, pr, st, hG, hs, tk, hp, hP, h => by
    simp only [cS] at h
    split at h
    · rename_i nm np at_ ap x cp sp
      simp only [Bool.and_eq_true, Bool.not_eq_true', decide_eq_true_eq] at h
      obtain ⟨⟨⟨⟨h1, h2⟩, h3⟩, h4⟩, h5⟩ := h
      obtain ⟨q1, q2, q3, q4⟩ := nmB_ok h1
      have q1 : X.N[i]? = some nm := by rw [hG.hN]; exact q1
      have q2 : Vis X.env.scope nm := by rw [hs]; exact q2
      subst h2
      have ha : [x].all (fun x => !starB x) = true := by simp [h4]
      have e' : (fun ρ0 ρ => execS g pr ρ0 (.app d i e) ρ) = fun _ ρ => if isLstAt ρ i then (evalE g .val e ρ).out fun v ρ => appO d i v.sv ρ else .bad := by funext ρ0 ρ; simp only [execS]
      rw [e']; exact st_app (fun _ _ _ z => val_imm e z) (xp_ok e hG hs tk h5).1 q1 q2 q3 q4 (base_ok rfl) (star_few ha (by simp)) h3 (star_one h4) rfl rfl
    · cases h
  | .retv i, X, W, sc, top, pr, st, hG, hs, tk, hp, hP, h => by
    simp only [cS] at h
    split at h
    · rename_i nm np sp
      obtain ⟨q1, q2, q3, q4⟩ := nmB_ok h
      have q1 : X.N[i]? = some nm := by rw [hG.hN]; exact q1
      have q2 : Vis X.env.scope nm := by rw [hs]; exact q2
      have e' : (fun ρ0 ρ => execS g pr ρ0 (.retv i) ρ) = fun _ ρ => if pr.contains i then .bad else match ρ[i]? with
        | some (.shr v) => .rt (.shr v) ρ
        | some (.frz2 v) => .rt (.shr v) ρ
        | some (.own v) => .rt (.own v) (ρ.set i .un)
        | some (.own2 v) => .rt (.own2 v) (ρ.set i .un)
        | _ => .bad := by funext ρ0 ρ; simp only [execS] <;> rfl
      rw [e']; exact st_retv hP q1 q2 q3 q4
    · cases h
  | .scrap n i, X, W, sc, top, pr, st, hG, hs, tk, hp, hP, h => by
    simp only [cS, Bool.and_eq_true] at h
    obtain ⟨htop, h⟩ := h
    split at h
    · simp only [Bool.and_eq_true, decide_eq_true_eq] at h
      obtain ⟨⟨h1, h2⟩, h3⟩ := h
      subst h2
      obtain ⟨q1, q2, q3, q4⟩ := nmB_ok h1
      rw [← hG.hN] at q1
      rw [← hs] at q2
      have e' : (fun ρ0 ρ => execS g pr ρ0 (.scrap n i) ρ) = fun ρ0 ρ => match ρ[i]? with
        | some (.frz2 (.lst (.lst xs :: _))) => if xs.length < big && decide (ρ.take n = ρ0.take n) && (ρ.take n).all isShr && (List.range n).all (fun j => pr.contains j) then .nx (unAll n ρ) else .bad
        | _ => .bad := by funext ρ0 ρ; simp only [execS] <;> rfl
      rw [e']; exact st_scrap (p2 := ⟨0, 0, 0, 0⟩) (k2 := 0) htop q1 q2 q3 q4 pe_int pe_int (fun _ _ => rfl) (base_ok rfl) (star_few rfl (by simp)) h3 rfl rfl rfl
    · cases h
  | .rai c e, X, W, sc, top, pr, st, hG, hs, tk, hp, hP, h => by
    simp only [cS] at h
    split at h
    · simp only [Bool.and_eq_true, Bool.not_eq_true', decide_eq_true_eq] at h
      obtain ⟨⟨⟨⟨h1, h2⟩, h3⟩, h4⟩, h5⟩ := h
      cases hc : G.excs[c]? with
      | none => rw [hc] at h1; cases h1
      | some p =>
        obtain ⟨nm', fld⟩ := p
        rw [hc] at h1
        cases h1
        have e' : (fun ρ0 ρ => execS g pr ρ0 (.rai c e) ρ) = fun _ ρ => (evalE g .val e ρ).out fun v ρ => .ex (.obj c [v.sv.val]) ρ := by funext ρ0 ρ; simp only [execS]
        rw [e']; exact st_rai hG tk (glb_ok hs h2) (plainNm_ok h3).1 h4 (fun _ _ _ z => val_imm e z) (xp_ok e hG hs tk h5).1 hc
    · cases h
  | .try_ b c i j his, X, W, sc, top, pr, st, hG, hs, tk, hp, hP, h => by
    simp only [cS] at h
    split at h
    · simp only [Bool.and_eq_true, decide_eq_true_eq] at h
      obtain ⟨⟨⟨⟨⟨⟨h1, h2⟩, h3⟩, h4⟩, h5⟩, h6⟩, h7⟩ := h
      cases hc : G.excs[c]? with
      | none => rw [hc] at h1; cases h1
      | some p =>
        obtain ⟨nm', fld⟩ := p
        rw [hc] at h1
        simp only [Bool.and_eq_true, decide_eq_true_eq] at h1
        obtain ⟨rfl, h1⟩ := h1
        obtain ⟨a1, a2, a3⟩ := locNm_ok h4
        obtain ⟨b1, b2, b3⟩ := locNm_ok h5
        have e' : (fun ρ0 ρ => execS g pr ρ0 (.try_ b c i j his) ρ) = fun ρ0 ρ => match execSs g pr ρ0 b ρ with | .ex p ρ => tryEnd pr c i j his p ρ | o => o := by funext ρ0 ρ; simp only [execS] <;> rfl
        rw [e']; exact st_try hG hs hp.stk hp.frm hP hc (by rw [hG.hN]; exact a1) a2 a3 (by rw [hG.hN]; exact b1) b2 (glb_ok hs h2) (plainNm_ok h3).1 tk h1 h6 fun W pn xe tk' hpo => ss_ok b (hG.tr pn xe) hs tk' ⟨hpo, hp.stk, hp.frm, hp.fn⟩ hP h7
    · cases h
  | .frz i, X, W, sc, top, pr, st, hG, hs, tk, hp, hP, h => by simp [cS] at h
termination_by s => sizeOf s
decreasing_by all_goals (simp_wf; try omega)
theorem ss_ok : ∀ (ss : Sxs) {X : Cx} {W : WX} {sc : Scope} {top : Bool} {pr : List Nat} {sts : List Stmt}, Glb Θ g G X → X.env.scope = sc → Takes X W → OwnX X → (∀ j ∈ P, j ∈ pr) → cSs G sc top ss sts = true → PSs X sts (tSt Θ top (fun ρ0 ρ => execSs g pr ρ0 ss ρ) P pr W)
  | .nil, X, W, sc, top, pr, sts, hG, hs, tk, hp, hP, h => by
    cases sts with
    | nil =>
      have e' : (fun ρ0 ρ => execSs g pr ρ0 .nil ρ) = fun _ ρ => Outc.nx ρ := by funext ρ0 ρ; simp only [execSs]
      rw [e']; exact ss_nil
    | cons _ _ => simp [cSs] at h
  | .cons s ss, X, W, sc, top, pr, sts, hG, hs, tk, hp, hP, h => by
    have e' : (fun ρ0 ρ => execSs g pr ρ0 (.cons s ss) ρ) = fun ρ0 ρ => (execS g pr ρ0 s ρ).seq fun ρ => execSs g pr ρ0 ss ρ := by funext ρ0 ρ; simp only [execSs]
    rw [e']
    by_cases hf : ∃ i, s = .frz i
    · obtain ⟨i, hi⟩ := hf
      have h' : cSs G sc top ss sts = true := by rw [hi] at h; simpa only [cSs] using h
      have e2 : (fun ρ0 ρ => (execS g pr ρ0 s ρ).seq fun ρ => execSs g pr ρ0 ss ρ) = fun ρ0 ρ => ((readV i ρ).out fun _ ρ => .nx ρ).seq fun ρ => execSs g pr ρ0 ss ρ := by rw [hi]; funext ρ0 ρ; simp only [execS]
      rw [e2]; exact ss_frz (ss_ok ss hG hs tk hp hP h')
    · obtain ⟨st, r, hst, h1, h2⟩ := cSs_cons (fun i hi => hf ⟨i, hi⟩) h
      rw [hst]; exact ss_cons (st_ok s hG hs tk hp hP h1) (ss_ok ss hG hs tk hp hP h2)
termination_by s => sizeOf s
decreasing_by all_goals (simp_wf; try omega)
end
end
end KL
end
section
set_option Elab.async false
set_option linter.all false
set_option maxRecDepth 100000
set_option maxHeartbeats 1000000
/-! KA27: a table of defs that passes the look keeps its promise, at each depth. -/
namespace KL
open PySem PySem.Spec PyProof.Rows L2
section
variable {Θ : Pm} {g : Gm} {P pr : List Nat} {B F F' F1 H H' H1 : Hp} {A A' A1 : Ad} {T : List Addr} {ρ ρ' : Rho} {σ σ' : L2.St} {a : Addr} {i : Nat}
/-- the slots that a def adds -/
theorem Sta.more {n : Nat} (S : Sta Θ.K P B F H A ρ σ) : Sta Θ.K P B F H A (ρ ++ List.replicate n .un) (σ ++ List.replicate n none) where
  ext := S.ext
  len := by simp [S.len]
  ok := fun j s o h1 h2 => by
    by_cases hj : j < ρ.length
    · rw [List.getElem?_append_left hj] at h1
      rw [List.getElem?_append_left (by rw [← S.len]; exact hj)] at h2
      exact S.ok j s o h1 h2
    · rw [List.getElem?_append_right (by omega), List.getElem?_replicate] at h1
      split at h1
      · cases h1; exact S.out j (by omega)
      · cases h1
  out := fun j hj => S.out j (by rw [List.length_append] at hj; omega)
  nd := S.nd
  dj := S.dj
  new := S.new
  mono := S.mono
  np := fun j v hj => by
    by_cases hl : j < ρ.length
    · rw [List.getElem?_append_left hl] at hj; exact S.np j v hj
    · rw [List.getElem?_append_right (by omega), List.getElem?_replicate] at hj
      split at hj <;> cases hj
theorem muOk_get : ∀ {m : Option Nat} {j i : Nat} {as : List SV} {s : SV}, muOk m j as = true → as[i]? = some s → (∃ v, s = .own v ∧ m = some (j + i)) ∨ (∃ v, s = .shr v ∧ m ≠ some (j + i))
  | _, _, _, [], _, _, h => by simp at h
  | m, j, 0, a :: as, s, h, e => by
    simp at e; subst e
    cases a <;> simp [muOk] at h
    · exact .inr ⟨_, rfl, by simpa using h.1⟩
    · exact .inl ⟨_, rfl, by simpa using h.1⟩
  | m, j, i + 1, a :: as, s, h, e => by
    have h2 : muOk m (j + 1) as = true := by
      cases a <;> simp [muOk] at h
      · exact h.2
      · exact h.2
    have := muOk_get h2 (by simpa using e)
    rw [show j + 1 + i = j + (i + 1) by omega] at this
    exact this
/-- what a run of the body leaves for the caller -/
theorem leave_sta {m : Option Nat} {as : List SV} {vs : List V} {n : Nat} {hd : List Nat} (S0 : Sta Θ.K m.toList H F H A as (vs.map some)) (hm : muOk m 0 as = true) (hpr : ∀ j ∈ m.toList, j ∈ pr) (S : Sta Θ.K m.toList H F' H' A' ρ' σ') (f : Frm F H A F' H' A' []) (k : Keep pr (vs.map some ++ List.replicate n none) σ') :
    ∃ A2, Sta Θ.K m.toList H F' H' A2 (setBk m (backOf m ρ') as) (vs.map some) ∧ Frm F H A F' H' A2 [] ∧ (∀ a, Oa A2 a → Oa A' a) := by
  have hl : as.length = vs.length := by have := S0.len; simpa using this
  have shr_keep : ∀ j s, as[j]? = some s → m ≠ some j → ∃ v y, s = .shr v ∧ vs[j]? = some y ∧ Rep Θ.K F' v y := fun j s e hj => by
    rcases muOk_get hm e with ⟨v, _, q⟩ | ⟨v, rfl, _⟩
    · rw [Nat.zero_add] at q; exact absurd q hj
    · obtain ⟨o, ho, _, y, hy, hr⟩ := S0.at e
      subst hy
      rw [List.getElem?_map] at ho
      cases hv : vs[j]? with
      | none => rw [hv] at ho; cases ho
      | some y' =>
        rw [hv] at ho; cases ho
        exact ⟨v, y, rfl, rfl, hr.mono f.ext⟩
  cases m with
  | none =>
    refine ⟨fun _ => [], ⟨S.ext, S0.len, fun j s o h1 h2 => ?_, fun _ _ => rfl, fun _ => List.nodup_nil, (fun _ _ _ z => nomatch z), (fun _ _ _ z => nomatch z), S.mono, fun j v h1 => ?_⟩, ⟨f.ext, f.keep, (fun b ⟨_, z⟩ => nomatch z), (fun _ z => nomatch z), f.fre⟩, fun b ⟨_, z⟩ => nomatch z⟩
    · obtain ⟨v, y, rfl, hy, hr⟩ := shr_keep j s h1 (fun z => nomatch z)
      rw [List.getElem?_map, hy] at h2
      cases h2
      exact ⟨rfl, y, rfl, hr⟩
    · intro z; cases z
  | some i =>
    have hi' : i ∈ (some i).toList := by simp
    have hik := k.2 i (hpr i hi')
    by_cases hil : i < as.length
    · have hiv : i < vs.length := by omega
      have ho : σ'[i]? = some (some vs[i]) := by
        rw [hik, List.getElem?_append_left (by simpa using hiv), List.getElem?_map, List.getElem?_eq_getElem hiv]; rfl
      have hρ : i < ρ'.length := by rw [S.len]; exact (List.getElem?_eq_some_iff.mp ho).1
      have hs : ρ'[i]? = some ρ'[i] := List.getElem?_eq_getElem hρ
      have ok := S.ok i _ _ hs ho
      let own : List Addr := match ρ'[i] with | .own _ => A' i | _ => []
      have hown : ∀ b ∈ own, b ∈ A' i := fun b hb => by
        show b ∈ A' i
        have hb : b ∈ (match ρ'[i] with | .own _ => A' i | _ => []) := hb
        split at hb
        · exact hb
        · cases hb
      have okb : SlotOk Θ.K H F' H' (backOf (some i) ρ') (some vs[i]) own := by
        show SlotOk Θ.K H F' H' (match ρ'[i]? with | some (.own v) => .own v | some (.shr v) => .shr v | _ => .un) (some vs[i]) (match ρ'[i] with | .own _ => A' i | _ => [])
        rw [hs]
        cases hx : ρ'[i] with
        | own v => rw [hx] at ok; exact ok
        | shr v => rw [hx] at ok; obtain ⟨_, y, hy, hr⟩ := ok; exact ⟨rfl, y, hy, hr⟩
        | un => exact rfl
        | own2 v => exact rfl
        | frz2 v => exact rfl
      refine ⟨fun j => if j = i then own else [], ⟨S.ext, by show (as.set i _).length = _; rw [List.length_set]; exact S0.len, fun j s o h1 h2 => ?_, fun j hj => ?_, fun j => ?_, fun j k b h1 h2 => ?_, fun j hj b hb => ?_, S.mono, fun j v h1 => ?_⟩, ⟨f.ext, f.keep, fun b ⟨j, z⟩ => ?_, (fun _ z => nomatch z), f.fre⟩, fun b ⟨j, z⟩ => ?_⟩
      · have h1 : (as.set i (backOf (some i) ρ'))[j]? = some s := h1
        show SlotOk Θ.K H F' H' s o (if j = i then own else [])
        by_cases hj : j = i
        · subst hj
          rw [List.getElem?_set_self hil] at h1
          cases h1
          rw [if_pos rfl]
          rw [List.getElem?_map, List.getElem?_eq_getElem hiv] at h2
          cases h2
          exact okb
        · rw [List.getElem?_set_ne (Ne.symm hj)] at h1
          rw [if_neg hj]
          obtain ⟨v, y, rfl, hy, hr⟩ := shr_keep j s h1 (fun z => hj (Option.some.inj z).symm)
          rw [List.getElem?_map, hy] at h2
          cases h2
          exact ⟨rfl, y, rfl, hr⟩
      · have hj : (as.set i (backOf (some i) ρ')).length ≤ j := hj
        rw [List.length_set] at hj
        show (if j = i then own else []) = []
        rw [if_neg (by omega)]
      · show (if j = i then own else []).Nodup
        split
        · show (match ρ'[i] with | .own _ => A' i | _ => []).Nodup
          split
          · exact S.nd i
          · exact List.nodup_nil
        · exact List.nodup_nil
      · have h1 : b ∈ (if j = i then own else []) := h1
        have h2 : b ∈ (if k = i then own else []) := h2
        split at h1
        · split at h2
          · rename_i e1 e2; exact e1.trans e2.symm
          · cases h2
        · cases h1
      · have hb : b ∈ (if j = i then own else []) := hb
        split at hb
        · rename_i e; subst e; exact absurd (by simp) hj
        · cases hb
      · have h1 : (as.set i (backOf (some i) ρ'))[j]? = some (.own2 v) := h1
        by_cases hj : j = i
        · subst hj
          rw [List.getElem?_set_self hil] at h1
          have h1 := Option.some.inj h1
          have h1 : (match ρ'[j]? with | some (.own v) => SV.own v | some (.shr v) => .shr v | _ => .un) = .own2 v := h1
          split at h1 <;> cases h1
        · rw [List.getElem?_set_ne (Ne.symm hj)] at h1
          rcases muOk_get hm h1 with ⟨_, z, _⟩ | ⟨_, z, _⟩ <;> cases z
      · have z : b ∈ (if j = i then own else []) := z
        split at z
        · exact f.own b ⟨i, hown b z⟩
        · cases z
      · have z : b ∈ (if j = i then own else []) := z
        split at z
        · exact ⟨i, hown b z⟩
        · cases z
    · refine ⟨fun _ => [], ⟨S.ext, by show (as.set i _).length = _; rw [List.length_set]; exact S0.len, fun j s o h1 h2 => ?_, fun _ _ => rfl, fun _ => List.nodup_nil, (fun _ _ _ z => nomatch z), (fun _ _ _ z => nomatch z), S.mono, fun j v h1 => ?_⟩, ⟨f.ext, f.keep, (fun b ⟨_, z⟩ => nomatch z), (fun _ z => nomatch z), f.fre⟩, fun b ⟨_, z⟩ => nomatch z⟩
      · have h1 : (as.set i (backOf (some i) ρ'))[j]? = some s := h1
        rw [List.set_eq_of_length_le (by omega)] at h1
        obtain ⟨v, y, rfl, hy, hr⟩ := shr_keep j s h1 (fun z => by
          have e := Option.some.inj z
          have := (List.getElem?_eq_some_iff.mp h1).1
          omega)
        rw [List.getElem?_map, hy] at h2
        cases h2
        exact ⟨rfl, y, rfl, hr⟩
      · have h1 : (as.set i (backOf (some i) ρ'))[j]? = some (.own2 v) := h1
        rw [List.set_eq_of_length_le (by omega)] at h1
        rcases muOk_get hm h1 with ⟨_, z, _⟩ | ⟨_, z, _⟩ <;> cases z
end
/-- where a def of the table stands -/
structure DefAt (K : PySem.W.Frag) (mg : Str → Option Value) (C : Cfg) (d : Df) (nm : Str) (fa : Addr) (fd : FuncData) (N ps : List Str) : Prop where
  mg : mg nm = some (.ref fa)
  kp : PySem.W.keepIn K (.ref fa) = true
  bd : Binds K fd ps []
  ba : ∀ (s : Shared) (us : List Value), us.length = ps.length → BindsTo s fd ⟨us, []⟩ (ps.zip us)
  len : ps.length = d.pars
  sl : N.length = d.slots
  ex : ∃ qual st, Fun K nm qual st fa fd ∧ FnScope N ps (defScope st) ∧ cSs { C with N := N } (defScope st) true d.body (defBody st) = true
structure TabOk (P : Program) (w : World) (K : PySem.W.Frag) (mg : Str → Option Value) (base : Heap) (Θ : Pm) (C : Cfg) (T : List Df) : Prop where
  hK : Θ.K = K
  defs : ∀ (f : Nat) (d : Df), T[f]? = some d → ∃ nm fa fd N ps, C.defs[f]? = some (nm, ps.length) ∧ DefAt K mg C d nm fa fd N ps
  only : ∀ (f : Nat) nm n, C.defs[f]? = some (nm, n) → f < T.length
  lent : ∀ f, C.lent f = (match T[f]? with | some d => d.lent | none => none)
  blt : ∀ n ∈ bltAll, mg n = none
  exc : ∀ c nm fld, C.excs[c]? = some (nm, fld) → Θ.cf c = fld ∧ mg nm = some (.ref (Θ.ca c)) ∧ OexC K (Θ.ca c) ∧ (∃ fI fd ps, PySem.W.findIn K (.ref (Θ.ca c)) "__init__" = some (some (.ref fI)) ∧ PySem.W.typeIn K (.ref fI) = some (.type "function") ∧ FnOk P w K mg base (L2.CX P w) 1 fI fd ps (spXI K (Θ.ca c) fld) ∧ Binds K fd ps []) ∧
    XfC K (Θ.ca c) ∧ PySem.W.findIn K (.ref (Θ.ca c)) fld = some none ∧ ExcC K (Θ.ca c) ∧ PySem.W.exmOne K (.ref (Θ.ca c)) (.ref (Θ.ca c)) = some true
  kit : ∀ c c2 p q, C.excs[c]? = some p → C.excs[c2]? = some q → PySem.W.kitOne K (.ref (Θ.ca c)) (.ref (Θ.ca c2)) = some (decide (c2 = c))
theorem gN_lent (T : List Df) : ∀ k f, (gN T k).lent f = (match T[f]? with | some d => d.lent | none => none)
  | 0, _ => rfl
  | _ + 1, _ => rfl
theorem gN_call (T : List Df) (k f : Nat) (vs : List SV) : (gN T (k + 1)).call f vs = (match T[f]? with | some d => runD (gN T k) d vs | none => .bad) := rfl
theorem backOf_no2 {m : Option Nat} {ρ : Rho} {w : PV} : backOf m ρ ≠ .own2 w := by
  unfold backOf
  split
  · split <;> (intro h; cases h)
  · intro h; cases h
theorem run_back {g : Gm} {d : Df} {vs : List SV} {v bk : SV} (h : runD g d vs = .ok v bk) : ∀ w, bk ≠ .own2 w := fun w e => by
  unfold runD at h
  split at h
  · dsimp only at h
    split at h <;> first | (cases h; exact backOf_no2 e) | cases h
  · cases h
theorem run_backx {g : Gm} {d : Df} {vs : List SV} {v : PV} {bk : SV} (h : runD g d vs = .exc v bk) : ∀ w, bk ≠ .own2 w := fun w e => by
  unfold runD at h
  split at h
  · dsimp only at h
    split at h <;> first | (cases h; exact backOf_no2 e) | cases h
  · cases h
section
variable {P : Program} {w : World} {K : PySem.W.Frag} {mg : Str → Option Value} {base : Heap} {Θ : Pm} {C : Cfg} {T : List Df}
theorem tab_ok (Tb : TabOk P w K mg base Θ C T) : ∀ (k f : Nat) (d : Df), T[f]? = some d → ∀ {nm : Str} {fa : Addr} {fd : FuncData} {N ps : List Str}, DefAt K mg C d nm fa fd N ps → FnOk P w K mg base (L2.CX P w) (k + 2) fa fd ps (spG Θ (gN T k) f d.pars)
  | 0, f, d, hT, nm, fa, fd, N, ps, D => ⟨fun vs H Q E ⟨_, _, _, e, _⟩ => by rw [e, D.len], fun A outer s H args us vs Q E _ _ _ _ ⟨F, A', as, _, _, z⟩ => z.elim⟩
  | k + 1, f, d, hT, nm, fa, fd, N, ps, D => by
    obtain ⟨qual, st, Fn, S, look⟩ := D.ex
    refine Fn.okX S (fun vs H Q E ⟨_, _, _, e, _⟩ => by rw [e, D.len]) fun cdv A outer s H vs Q E hr hsp => ?_
    generalize hX : cxOf (L2.CX P w) P w K mg base N qual (defScope st) fa cdv A outer s H E = X
    have xP : X.prog = P := by rw [← hX]; rfl
    have xw : X.w = w := by rw [← hX]; rfl
    have xK : X.K = K := by rw [← hX]; rfl
    have xm : X.mg = mg := by rw [← hX]; rfl
    have xb : X.base = base := by rw [← hX]; rfl
    have xN : X.N = N := by rw [← hX]; rfl
    have xe : X.env = envOfC qual (defScope st) s.heap.objs.size fa cdv := by rw [← hX]; rfl
    have hr : Room (k + 2) X.A := by rw [← hX]; exact hr
    have hG : Glb Θ (gN T k) { C with N := N } X := by
      refine ⟨by rw [xK, Tb.hK], by rw [← hX]; rfl, ?_, by rw [xN]; exact S.nd, xN, fun n hn => by rw [xm]; exact Tb.blt n hn, fun f' nm' n hf => ?_, fun f' => by rw [gN_lent]; exact Tb.lent f', fun f' j v bk as h _ => ?_, fun f' j v bk as h _ => ?_, fun c nm fld e => ?_, ?_, hr.mono (by omega)⟩
      · have := hr.un; omega
      · have hlt := Tb.only f' nm' n hf
        have hTf : T[f']? = some T[f'] := List.getElem?_eq_getElem hlt
        obtain ⟨nm2, fa2, fd2, N2, ps2, e1, D2⟩ := Tb.defs f' _ hTf
        have hf : C.defs[f']? = some (nm', n) := hf
        rw [hf] at e1
        cases e1
        refine ⟨k + 2, fa2, fd2, ps2, by rw [xm]; exact D2.mg, by rw [xK]; exact D2.kp, by rw [xK]; exact D2.bd, rfl, ?_, hr⟩
        have := tab_ok Tb k f' _ hTf D2
        rw [xP, xw, xK, xm, xb, D2.len]
        exact this
      · cases k with
        | zero => cases h
        | succ k =>
          rw [gN_call] at h
          split at h
          · exact run_back h
          · cases h
      · cases k with
        | zero => cases h
        | succ k =>
          rw [gN_call] at h
          split at h
          · exact run_backx h
          · cases h
      · obtain ⟨e1, e2, e3, e4, e5, e6, e7, e8⟩ := Tb.exc c nm fld e
        exact ⟨e1, by rw [xm]; exact e2, by rw [xK]; exact e3, by rw [xP, xw, xK, xm, xb]; exact e4, by rw [xK]; exact e5, by rw [xK]; exact e6, by rw [xK]; exact e7, by rw [xK]; exact e8⟩
      · rw [xK]; exact Tb.kit
    have tk : Takes X (fun cls d _ H => E cls d H) := by
      subst hX
      exact takes_of rfl rfl rfl rfl
    have hp : OwnX X := by
      subst hX
      exact ⟨passes_of rfl, rfl, rfl, fun _ => rfl⟩
    have hs : X.env.scope = defScope st := by rw [xe]; rfl
    have body := ss_ok (P := d.lent.toList) (pr := d.lent.toList ++ d.prot) d.body hG hs tk hp (fun j hj => List.mem_append_left _ hj) look
    refine ⟨_, body, ?_⟩
    obtain ⟨F, A0, as, hlen, S0, hq⟩ := hsp
    rw [gN_call, hT] at hq
    rw [gN_lent, hT] at S0 hq
    have hq : match runD (gN T k) d as with
      | .ok v bk => ∀ x F' H' A' T, Sta Θ.K d.lent.toList H F' H' A' (setBk d.lent bk as) (vs.map some) → Frm F H A0 F' H' A' T → TOk A' F' H' T → Res Θ.K F' H' [] (.imm v) x T → Q x H'
      | .exc p bk => ∀ c d' F' H' A', Sta Θ.K d.lent.toList H F' H' A' (setBk d.lent bk as) (vs.map some) → Frm F H A0 F' H' A' [] → Exr Θ F' H' p c d' → E c d' H'
      | .bad => False := hq
    have S0 : Sta Θ.K d.lent.toList H F H A0 as (vs.map some) := S0
    have hal : as.length = vs.length := by have := S0.len; simpa using this
    unfold runD at hq
    by_cases hc : (as.length == d.pars && muOk d.lent 0 as) = true
    · rw [if_pos hc] at hq
      simp only [Bool.and_eq_true, beq_iff_eq] at hc
      obtain ⟨hc1, hmu⟩ := hc
      have est : L2.start N vs = vs.map some ++ List.replicate (d.slots - d.pars) none := by
        unfold L2.start
        rw [D.sl, hlen]
      rw [est]
      have S1 := S0.more (n := d.slots - d.pars)
      refine ⟨⟨H, F, H, A0, as ++ List.replicate (d.slots - d.pars) .un, vs.map some ++ List.replicate (d.slots - d.pars) none⟩, F, A0, as ++ List.replicate (d.slots - d.pars) .un, as ++ List.replicate (d.slots - d.pars) .un, S1, fun _ => ⟨rfl, rfl⟩, ⟨S1, Frm.refl _ _ _, rfl, fun _ _ => rfl⟩, ?_⟩
      show Gs Θ d.lent.toList (d.lent.toList ++ d.prot) _ _ _ (execSs (gN T k) (d.lent.toList ++ d.prot) (as ++ List.replicate (d.slots - d.pars) .un) d.body (as ++ List.replicate (d.slots - d.pars) .un))
      dsimp only at hq
      have hprl : ∀ j ∈ d.lent.toList, j ∈ d.lent.toList ++ d.prot := fun j hj => List.mem_append_left _ hj
      cases hx : execSs (gN T k) (d.lent.toList ++ d.prot) (as ++ List.replicate (d.slots - d.pars) .un) d.body (as ++ List.replicate (d.slots - d.pars) .un) with
      | nx ρ' =>
        rw [hx] at hq
        intro F' H' A' σ' a1
        obtain ⟨A2, S2, f2, _⟩ := leave_sta (hd := []) S0 hmu hprl a1.1 a1.2.1 a1.2.2
        exact hq .non F' H' A2 [] S2 f2 TOk.nil ⟨rfl, by simp [Rep]⟩
      | rt v ρ' =>
        rw [hx] at hq
        intro x F' H' A' T' σ' S' f' tn k' t' r'
        obtain ⟨A2, S2, f2, o2⟩ := leave_sta (hd := []) S0 hmu hprl S' f' k'
        exact hq x F' H' A2 T' S2 ⟨f2.ext, f2.keep, f2.own, fun b hb => (tn b hb).2, f2.fre⟩ ⟨t'.nd, fun b hb z => t'.ap b hb (o2 b z), t'.no, t'.th⟩ r'
      | ex p ρ' =>
        rw [hx] at hq
        intro c d' F' H' A' σ' a1 e1
        obtain ⟨A2, S2, f2, _⟩ := leave_sta (hd := []) S0 hmu hprl a1.1 a1.2.1 a1.2.2
        exact hq c d' F' H' A2 S2 f2 e1
      | bk ρ' => rw [hx] at hq; exact hq.elim
      | ct ρ' => rw [hx] at hq; exact hq.elim
      | bad => rw [hx] at hq; exact hq.elim
    · rw [if_neg hc] at hq
      exact hq.elim
end
end KL
end
section
set_option Elab.async false
set_option linter.all false
set_option maxRecDepth 100000
set_option maxHeartbeats 4000000
/-! KH1: what the head tells: the defs and the own exception classes of a text. -/
namespace KL
open PySem PySem.Spec PyProof.Rows L2 PySem.W He
/-! ### defs -/
structure KD where
  at_ : Str × Option Str
  qual : Str
  st : Stmt
  clo : List Str := []
abbrev KW : Type := Option (Str × Str × Arguments × FuncBody × Scope × Addr × List Str × Addr)
def kW (K : PySem.W.Frag) (p : Str × Option Str) : KW := match K.lookup (fAd K p) with
  | some ⟨_, _, .func fd, _⟩ => some (fd.name, fd.qualname, fd.params, fd.body, fd.scope, fd.globals, fd.closure.map (·.1), fd.builtins)
  | _ => none
def defNm (s : Stmt) : Str := match s with
  | .FunctionDef n _ _ _ _ _ _ _ _ _ => n
  | _ => Str.ofString ""
def KD.val (d : KD) : KW := some (defNm d.st, d.qual, defArgs d.st, .stmts (defBody d.st), defScope d.st, mainGlobals, d.clo, builtinsNs)
def isNone : Value → Bool
  | .none => true
  | _ => false
def KD.ok (K : PySem.W.Frag) (d : KD) : Bool := PySem.W.keepIn K (.ref (fAd K d.at_)) && (match K.lookup (fAd K d.at_) with
  | some ⟨_, _, .func fd, _⟩ => PySem.W.codeIn K fd.code d.qual && isNone fd.defaults
  | _ => false)
theorem isNone_ok {v : Value} (h : isNone v = true) : v = .none := by cases v <;> first | rfl | cases h
theorem KD.fun {K : PySem.W.Frag} {d : KD} (e : kW K d.at_ = d.val) (c : d.ok K = true) (hc : d.clo = []) : ∃ fd, Fun K (defNm d.st) d.qual d.st (fAd K d.at_) fd := by
  obtain ⟨kp, c2⟩ := ba c
  unfold kW at e
  cases q : K.lookup (fAd K d.at_) with
  | none => rw [q] at c2; cases c2
  | some o =>
    obtain ⟨oc, od, dt, osl⟩ := o
    rw [q] at c2 e
    cases dt with
    | func fd =>
      obtain ⟨n1, n2, n3, n4, n5, n6, n7, n8, n9, n10, n11, n12, n13, n14, n15⟩ := fd
      have e2 : (some (n1, n2, n3, n4, n5, n6, n7.map (·.1), n15) : KW) = d.val := e
      unfold KD.val at e2
      rw [hc] at e2
      simp only [Option.some.injEq, Prod.mk.injEq, List.map_eq_nil_iff] at e2
      obtain ⟨h1, h2, h3, h4, h5, h6, h7, h8⟩ := e2
      subst h1 h2 h3 h4 h5 h6 h7 h8
      obtain ⟨k1, k2⟩ := ba (show (PySem.W.codeIn K n13 d.qual && isNone n8) = true from c2)
      have k2 := isNone_ok k2
      subst k2
      exact ⟨_, ⟨oc, od, n9, n10, n11, n12, n13, n14, osl, rfl, q, k1⟩, kp⟩
    | _ => cases c2
/-- a def that closes over __class__ -/
theorem KD.sup {K : PySem.W.Frag} {d : KD} (e : kW K d.at_ = d.val) (c : d.ok K = true) (hc : d.clo = [Str.ofString "__class__"]) : ∃ (oc : Value) (od : Option Addr) (kV doc pm : Value) (an : Option Addr) (cdv ct : Value) (osl : Array (Option Value)) (cc : Addr),
    K.lookup (fAd K d.at_) = some ⟨oc, od, .func (ksFn (defNm d.st) d.qual (defArgs d.st) (defBody d.st) (defScope d.st) .none kV doc pm an cdv ct cc), osl⟩ ∧ PySem.W.codeIn K cdv d.qual = true := by
  obtain ⟨kp, c2⟩ := ba c
  unfold kW at e
  cases q : K.lookup (fAd K d.at_) with
  | none => rw [q] at c2; cases c2
  | some o =>
    obtain ⟨oc, od, dt, osl⟩ := o
    rw [q] at c2 e
    cases dt with
    | func fd =>
      obtain ⟨n1, n2, n3, n4, n5, n6, n7, n8, n9, n10, n11, n12, n13, n14, n15⟩ := fd
      have e2 : (some (n1, n2, n3, n4, n5, n6, n7.map (·.1), n15) : KW) = d.val := e
      unfold KD.val at e2
      rw [hc] at e2
      simp only [Option.some.injEq, Prod.mk.injEq] at e2
      obtain ⟨h1, h2, h3, h4, h5, h6, h7, h8⟩ := e2
      subst h1 h2 h3 h4 h5 h6 h8
      obtain ⟨k1, k2⟩ := ba (show (PySem.W.codeIn K n13 d.qual && isNone n8) = true from c2)
      have k2 := isNone_ok k2
      subst k2
      match n7, h7 with
      | [(x, cc)], h7 =>
        simp only [List.map_cons, List.map_nil, List.cons.injEq, and_true] at h7
        subst h7
        exact ⟨oc, od, n9, n10, n11, n12, n13, n14, osl, cc, rfl, k1⟩
    | _ => cases c2
/-! ### own exception classes of one field -/
structure XD where
  nm : Str
  fld : Str
  qual : Str
  st : Stmt
def XD.kd (x : XD) : KD := ⟨(x.nm, some "__init__"), x.qual, x.st, ["__class__"]⟩
def oexB (K : PySem.W.Frag) (C : Addr) : Bool := (match K.lookup C with
  | some ⟨.type t, _, .cls cd, sl⟩ => (match cd.mro, sl.toList with
    | .ref C' :: bm, [_, _, _, _, some (.builtin n), _] => decide (t = "type") && decide (C' = C) && decide (n = "ValueError.__new__") && !cd.hasDel && cd.hasDict && PySem.HandSPX.refsVE bm
    | _, _ => false)
  | _ => false) && (eqO (PySem.W.findIn K (.ref C) "__setattr__") (some (some (.builtin "object.__setattr__"))) && (decide (PySem.W.subIn K (.ref C) (.type "BaseException") = some true) && (decide (PySem.W.typeIn K (.ref C) = some (.type "type")) && PySem.W.keepIn K (.ref C))))
theorem oexB_ok {K : PySem.W.Frag} {C : Addr} (h : oexB K C = true) : OexC K C := by
  obtain ⟨h1, h⟩ := ba h
  obtain ⟨h2, h⟩ := ba h
  obtain ⟨h3, h⟩ := ba h
  obtain ⟨h4, h5⟩ := ba h
  refine ⟨?_, eqO_ok h2, of_decide_eq_true h3, of_decide_eq_true h4, h5⟩
  split at h1
  · rename_i t dd cd sl ho
    split at h1
    · rename_i C' bm k0 k1 k2 k3 n k5 hm hs
      simp only [Bool.and_eq_true, decide_eq_true_eq, Bool.not_eq_true'] at h1
      obtain ⟨⟨⟨⟨⟨rfl, rfl⟩, rfl⟩, hdel⟩, hdct⟩, hbm⟩ := h1
      obtain ⟨nm, bs, mro, ns, qn, hd, sn, sub, ab, col, del⟩ := cd
      dsimp only at hm hdel hdct
      subst hm hdel hdct
      have hsl : sl = #[k0, k1, k2, k3, some (.builtin "ValueError.__new__"), k5] := by
        rw [← Array.toArray_toList (xs := sl), hs]
      subst hsl
      exact ⟨nm, qn, ns, bs, bm, sn, sub, ab, col, dd, k0, k1, k2, k3, k5, ho, hbm⟩
    · cases h1
  · cases h1
def ecB (K : PySem.W.Frag) (D : Addr) : Bool := eqO (PySem.W.findIn K (.ref D) "__getattribute__") (some (some (.builtin "BaseException.__getattribute__"))) && (eqO (PySem.W.findIn K (.ref D) "__getattr__") (some none) && (decide (PySem.W.subIn K (.ref D) (.type "BaseException") = some true) && (PySem.W.hasDictIn K D &&
  (eqO (PySem.W.findIn K (.ref D) "__class__") (some (some (.builtin "object.__class__"))) && (eqO (PySem.W.specialIn K (.builtin "object.__class__") "__get__") (some (some (.builtin "getset_descriptor.__get__"))) && (decide (PySem.W.takesIn K (.builtin "object.__class__") = some true) && decide (PySem.W.mroIn K D (.type "object") = some true)))))))
theorem ecB_ok {K : PySem.W.Frag} {D : Addr} (h : ecB K D = true) : ExcC K D := by
  obtain ⟨h1, h⟩ := ba h
  obtain ⟨h2, h⟩ := ba h
  obtain ⟨h3, h⟩ := ba h
  obtain ⟨h4, h⟩ := ba h
  obtain ⟨h5, h⟩ := ba h
  obtain ⟨h6, h⟩ := ba h
  obtain ⟨h7, h8⟩ := ba h
  exact ⟨eqO_ok h1, eqO_ok h2, of_decide_eq_true h3, h4, eqO_ok h5, eqO_ok h6, of_decide_eq_true h7, of_decide_eq_true h8⟩
/-- the cell of __class__, the code's file, super's way -/
def supB (K : PySem.W.Frag) (P : Program) (fI C : Addr) : Bool := (match K.lookup fI with
  | some ⟨_, _, .func fd, _⟩ => (match fd.closure, fd.code with
    | [(_, cc)], .ref cda => (match K.lookup cda with
      | some ⟨_, _, .fields vs, _⟩ => (match vs.toList with
        | _ :: _ :: .str file _ :: _ => (P.main.file : Str) == file
        | _ => false)
      | _ => false) && (match K.lookup cc with
      | some ⟨_, _, .cell (some (.ref C')), _⟩ => decide (C' = C)
      | _ => false)
    | _, _ => false)
  | _ => false) && (!(P.main.scope.names.lookup ("super" : Str)).isSome && ((PySem.W.clsIn K C).isSome && (decide (PySem.W.mroIn K C (.ref C) = some true) && (eqO (PySem.W.nsIn K cStatics "thirdparty.any") (some none) &&
  (eqO (PySem.W.ks_superIn K C C "__init__") (some (some (.builtin "ValueError.__init__"))) && decide (PySem.W.subIn K (.ref C) (.type "ValueError") = some true))))))
theorem supB_ok {K : PySem.W.Frag} {P : Program} {fI C cc : Addr} {name qual ar : Str} {params : Arguments} {body : List Stmt} {scope : Scope} {kV doc pm cdv ct oc : Value} {an od : Option Addr} {osl : Array (Option Value)} {rest : List Arg} {a : Arg}
    (lk : K.lookup fI = some ⟨oc, od, .func (ksFn name qual params body scope .none kV doc pm an cdv ct cc), osl⟩) (hp : params.posonlyargs ++ params.args = a :: rest) (ha : a.arg = ar) (h : supB K P fI C = true) :
    ∃ cda, cdv = .ref cda ∧ SupF K P fI cc cda C (ksFn name qual params body scope .none kV doc pm an (.ref cda) ct cc) ar := by
  obtain ⟨h1, h⟩ := ba h
  obtain ⟨h2, h⟩ := ba h
  obtain ⟨h3, h⟩ := ba h
  obtain ⟨h4, h⟩ := ba h
  obtain ⟨h5, h⟩ := ba h
  obtain ⟨h6, h7⟩ := ba h
  rw [lk] at h1
  have h1 : (match (generalizing := false) ([("__class__", cc)] : List (Str × Addr)), cdv with
    | [(_, cc)], .ref cda => (match K.lookup cda with
      | some ⟨_, _, .fields vs, _⟩ => (match vs.toList with
        | _ :: _ :: .str file _ :: _ => (P.main.file : Str) == file
        | _ => false)
      | _ => false) && (match K.lookup cc with
      | some ⟨_, _, .cell (some (.ref C')), _⟩ => decide (C' = C)
      | _ => false)
    | _, _ => false) = true := h1
  cases cdv with
  | ref cda =>
    obtain ⟨h8, h9⟩ := ba h1
    refine ⟨cda, rfl, ⟨⟨oc, od, osl, lk⟩, ⟨a, by show (params.posonlyargs ++ params.args).head? = _; rw [hp]; rfl, ha⟩, ?_, by simpa using h2, ?_, Option.isSome_iff_exists.mp h3, of_decide_eq_true h4, eqO_ok h5, eqO_ok h6, of_decide_eq_true h7⟩⟩
    · split at h8
      · rename_i c d vs sl ho
        split at h8
        · rename_i x y file tf r hv
          refine ⟨c, d, vs, sl, file, tf, ho, ?_, h8⟩
          rw [← Array.getElem?_toList, hv]; rfl
        · cases h8
      · cases h8
    · split at h9
      · rename_i c d C' sl ho
        have e : C' = C := of_decide_eq_true h9
        subst e
        exact ⟨c, d, sl, ho⟩
      · cases h9
  | _ => cases h1
def XD.ok (K : PySem.W.Frag) (P : Program) (x : XD) : Bool := eqO (PySem.W.nsIn K mainGlobals x.nm) (some (some (.ref (ga K x.nm)))) && (oexB K (ga K x.nm) && (eqO (PySem.W.findIn K (.ref (ga K x.nm)) "__init__") (some (some (.ref (fAd K (x.nm, some "__init__"))))) &&
  (decide (PySem.W.typeIn K (.ref (fAd K (x.nm, some "__init__"))) = some (.type "function")) && (xfB K (ga K x.nm) && (eqO (PySem.W.findIn K (.ref (ga K x.nm)) x.fld) (some none) && (ecB K (ga K x.nm) && (decide (PySem.W.exmOne K (.ref (ga K x.nm)) (.ref (ga K x.nm)) = some true) && supB K P (fAd K (x.nm, some "__init__")) (ga K x.nm))))))))
/-- the scope of such an __init__ -/
def scI (sc : Scope) (a0 a1 : Str) : Bool := decide (sc.kind = .function) && !sc.isCoroutine && !sc.isGenerator && sc.names.all (fun x => !(x.2 == .cell)) && decide (sc.names.lookup a0 = some .local) && decide (sc.names.lookup a1 = some .local) && decide (a0 ≠ a1) &&
  decide (sc.names.lookup ("super" : Str) = some .globalImplicit) && decide (sc.names.lookup ("__class__" : Str) = some .free) && sc.names.all (fun x => !(x.2 == .free) || decide (x.1 = ("__class__" : Str))) && plainNm a0 && plainNm a1
def XdOk (P : Program) (w : World) (K : PySem.W.Frag) (mg : Str → Option Value) (base : Heap) (nm fld : Str) (C : Addr) : Prop :=
    mg nm = some (.ref C) ∧ OexC K C ∧ (∃ fI fd ps, PySem.W.findIn K (.ref C) "__init__" = some (some (.ref fI)) ∧ PySem.W.typeIn K (.ref fI) = some (.type "function") ∧ FnOk P w K mg base (L2.CX P w) 1 fI fd ps (spXI K C fld) ∧ Binds K fd ps []) ∧
    XfC K C ∧ PySem.W.findIn K (.ref C) fld = some none ∧ ExcC K C ∧ PySem.W.exmOne K (.ref C) (.ref C) = some true
theorem xd_ok {P : Program} {w : World} {K : PySem.W.Frag} {mg : Str → Option Value} {base h : Heap} {x : XD} {a0 a1 msg : Str} {kk : Nat} {p0 p1 p2 p3 p4 p5 p6 ap cp ep : Pos} {ra0 ra1 : Arg} (KX : K.In h) (G : h.Ns mainGlobals mg) (c : x.ok K P = true) (e : kW K x.kd.at_ = x.kd.val) (cd : x.kd.ok K = true)
    (hb : defBody x.st = [.Expr (.Call (.Attribute (.Call (.Name "super" p0) [] [] p1) "__init__" ap) [.Constant (.str msg) kk p2] [] cp) ep, .Assign [.Attribute (.Name a0 p3) x.fld p4] (.Name a1 p5) p6])
    (hp : (defArgs x.st).posonlyargs ++ (defArgs x.st).args = [ra0, ra1]) (h0 : ra0.arg = a0) (h1 : ra1.arg = a1) (hsc : scI (defScope x.st) a0 a1 = true) (hline : (ap.endLine == cp.line) = true) (hm : mg "super" = none)
    (hbind : ∀ (kV doc pm : Value) (an : Option Addr) (cdv ct : Value) (cc : Addr) (us : List Value), us.length = 2 → bindArgs (ksFn (defNm x.st) x.qual (defArgs x.st) (defBody x.st) (defScope x.st) .none kV doc pm an cdv ct cc) ⟨us, []⟩ = pure ([a0, a1].zip us)) :
    XdOk P w K mg base x.nm x.fld (ga K x.nm) := by
  obtain ⟨c1, c⟩ := ba c
  obtain ⟨c2, c⟩ := ba c
  obtain ⟨c3, c⟩ := ba c
  obtain ⟨c4, c⟩ := ba c
  obtain ⟨c5, c⟩ := ba c
  obtain ⟨c6, c⟩ := ba c
  obtain ⟨c7, c⟩ := ba c
  obtain ⟨c8, c9⟩ := ba c
  obtain ⟨oc, od, kV, doc, pm, an, cdv, ct, osl, cc, lk, hcd⟩ := KD.sup e cd rfl
  obtain ⟨cda, rfl, U⟩ := supB_ok (P := P) (C := ga K x.nm) lk hp h0 c9
  unfold scI at hsc
  simp only [Bool.and_eq_true, decide_eq_true_eq, Bool.not_eq_true', List.all_eq_true] at hsc
  obtain ⟨⟨⟨⟨⟨⟨⟨⟨⟨⟨⟨s1, s2⟩, s3⟩, s4⟩, s5⟩, s6⟩, s7⟩, s8⟩, s9⟩, s10⟩, s11⟩, s12⟩ := hsc
  have T := oexB_ok c2
  refine ⟨PySem.W.mg_of KX G (eqO_ok c1), T, ⟨_, ksFn (defNm x.st) x.qual (defArgs x.st) (defBody x.st) (defScope x.st) .none kV doc pm an (.ref cda) ct cc, [a0, a1], eqO_ok c3, of_decide_eq_true c4, ?_, ?_⟩, xfB_ok c5, eqO_ok c6, ecB_ok c7, of_decide_eq_true c8⟩
  · have lk' := lk
    simp only [XD.kd] at lk' U hcd
    rw [hb] at lk' U ⊢
    exact xinit_ok lk' hcd T (eqO_ok c6) U s1 s2 s3 (fun y hy z => by have := s4 y hy; rw [z] at this; cases this) s5 s6 s7 s8 s9 (fun y hy z => by
      have := s10 y hy
      rw [z] at this
      simpa using this) hm hline (plainNm_ok s11).1 (plainNm_ok s12).1 (plainNm_ok s11).2 (plainNm_ok s12).2
  · exact .all fun us hl => hbind kV doc pm an (.ref cda) ct cc us hl
/-! ### the Hook -/
def asK (g : Addr → Option Obj) : Nat → List Addr
  | 0 => [mainGlobals, cStatics]
  | n + 1 => growD g (asK g n)
def obsF (ds : List KD) (ex : PySem.W.Frag → Bool) (K : PySem.W.Frag) : Bool × List KW := (ex K && ds.all fun d => d.ok K, ds.map fun d => kW K d.at_)
def obsK (n : Nat) (ds : List KD) (ex : PySem.W.Frag → Bool) (g : Addr → Option Obj) : Bool × List KW := obsF ds ex (frG g (asK g n))
structure SaysK (ds : List KD) (ex : PySem.W.Frag → Bool) (K : PySem.W.Frag) : Prop where
  ex : ex K = true
  defs : ∀ d ∈ ds, d.ok K = true ∧ kW K d.at_ = d.val
theorem saysK_of {ds : List KD} {ex : PySem.W.Frag → Bool} {K : PySem.W.Frag} (e : obsF ds ex K = (true, ds.map KD.val)) : SaysK ds ex K := by
  have e1 : (ex K && ds.all fun d => d.ok K) = true := congrArg (fun z : Bool × List KW => z.1) e
  have e2 : (ds.map fun d => kW K d.at_) = ds.map KD.val := congrArg (fun z : Bool × List KW => z.2) e
  obtain ⟨h1, h2⟩ := ba e1
  refine ⟨h1, fun d hd => ⟨List.all_eq_true.mp h2 d hd, ?_⟩⟩
  obtain ⟨i, hi, rfl⟩ := List.mem_iff_getElem.mp hd
  have q : (ds.map fun d => kW K d.at_)[i]? = (ds.map KD.val)[i]? := by rw [e2]
  rw [List.getElem?_map, List.getElem?_map, List.getElem?_eq_getElem hi] at q
  exact Option.some.inj q
def hookK (n : Nat) (ds : List KD) (ex : PySem.W.Frag → Bool) : PySem.W.Hook where
  α := Bool × List KW
  obs := fun s => obsK n ds ex s.heap.get?
  val := fun _ => (true, ds.map KD.val)
  says := fun _ h => ∃ K : PySem.W.Frag, K.In h ∧ SaysK ds ex K
  of := fun _ _ e => ⟨_, frG_in, saysK_of e⟩
  keeps := fun _ _ _ ⟨K, hK, c⟩ k => ⟨K, PySem.W.Frag.In.keeps hK k, c⟩
theorem obsK_eq {n : Nat} {ds : List KD} {ex : PySem.W.Frag → Bool} {g : Addr → Option Obj} {s : Shared} (h : ∀ a, g a = s.heap.get? a) : obsK n ds ex g = (hookK n ds ex).obs s := by
  have e : g = s.heap.get? := funext h
  rw [e] <;> rfl
end KL
end
section
set_option Elab.async false
set_option linter.all false
set_option maxRecDepth 100000
set_option maxHeartbeats 4000000
/-! KH2: a law's end: what the evaluator says of the law's call is the statement. -/
namespace KL
open PySem PySem.Spec PyProof.Rows L2 PySem.W He
def spE (sp : Sp) : Sp := fun vs H Q _ => sp vs H Q fun _ _ _ => False
theorem fn_quiet {P : Program} {w : World} {K : PySem.W.Frag} {mg : Str → Option Value} {base : Heap} {k : Nat} {f : Addr} {fd : FuncData} {ps : List Str} {sp : Sp} (F : FnOk P w K mg base (L2.CX P w) k f fd ps sp) : FnOk P w K mg base CX0 k f fd ps (spE sp) :=
  ⟨fun vs H Q E h => F.len vs H Q _ h, fun A outer s H args us vs Q E hr e0 hb r h => codeAny_mono (F.run A outer s H args us vs Q (fun _ _ _ => False) hr e0 hb r h) fun r s' q => by
    cases r with
    | ok fl => cases fl <;> exact q
    | error e =>
      obtain ⟨_, _, _, _, _, _, _, _, _, _, _, _, z⟩ := (show L2.CX P w outer H s (fun _ _ _ => False) e s' from q)
      exact z.elim⟩
/-- the law's call, from the evaluator's word -/
theorem sp_law {Θ : Pm} {g : Gm} {f : Nat} {H : Hp} {a : Addr} {ns : List Int} (hl : g.lent f = none) (hS : SqL Θ.K H a (ns.map V.int)) (h : ∃ bk, g.call f [.shr (.scr ns)] = .ok (.shr (.bl true)) bk) :
    spE (spG Θ g f 1) [.ref a] H (fun v _ => v = .bl true) fun _ _ _ => False := by
  obtain ⟨bk, h⟩ := h
  refine ⟨H, fun _ => [], [.shr (.scr ns)], rfl, ⟨Evl.Ex.refl _, rfl, fun i s o h1 h2 => ?_, fun _ _ => rfl, fun _ => List.nodup_nil, (fun _ _ _ z => nomatch z), (fun _ _ _ z => nomatch z), fun _ z => z, fun i v e => ?_⟩, ?_⟩
  · match i, h1, h2 with
    | 0, h1, h2 =>
      cases h1; cases h2
      exact ⟨rfl, _, rfl, by simp only [Rep]; exact ⟨a, rfl, hS⟩⟩
    | n + 1, h1, h2 => simp at h1
  · match i, e with
    | 0, e => cases e
    | n + 1, e => simp at e
  · rw [h]
    intro x F' H' A' T _ _ _ r
    obtain ⟨_, r⟩ := r
    simpa [Rep] using r
end KL
end
section
set_option linter.all false
/-! K28T: the table of k28's defs (printed by gen.py). -/
namespace KL
namespace K28
open PySem
/-! 0 is_order: 0 size 1 order -/
def d_is_order : Df := ⟨2, 2, none,
    (.cons (.ret (.cmp .eq (.blt .sorted (.cons (.var 1) .nil)) (.blt .listrng2 (.cons (.cst (.int 1)) (.cons (.bop .add (.var 0) (.cst (.int 1))) .nil)))))
    .nil), []⟩
/-! 1 check_orders: 0 size 1 listings 2 listing -/
def q_check_orders_1 : Sxs := (.cons (.ife (.bnot (.call false 0 (.cons (.var 0) (.cons (.var 2) .nil))))
     (.cons (.rai 0 (.blt .tuple (.cons (.var 2) .nil)))
     .nil)
     .nil)
  .nil)
def q_check_orders_2 : Sx := (.for_ (.seq (.var 1)) (.one 2) q_check_orders_1)
def d_check_orders : Df := ⟨2, 3, none,
    (.cons q_check_orders_2
    .nil), []⟩
/-! 2 turned_between: 0 first 1 second 2 place 3 at 4 node 5 y 6 x -/
def q_turned_between_1 : Xp := (.var 4)
def q_turned_between_2 : Xp := (.var 3)
def q_turned_between_3 : Xp := (.dcm (.enm (.var 1)) (.many [3, 4]) [3, 4] q_turned_between_1 q_turned_between_2)
def q_turned_between_4 : Wk := (.seq (.slc (.var 0) .no (.som (.var 3))))
def q_turned_between_5 : Xpo := (.som (.cmp .lt (.idx (.var 2) (.var 5)) (.idx (.var 2) (.var 6))))
def q_turned_between_6 : Xp := (.tup (.cons (.var 6) (.cons (.var 5) .nil)))
def q_turned_between_7 : Xp := (.lc2 (.enm (.var 0)) (.many [3, 5]) q_turned_between_4 (.one 6) [3, 5, 6] [6] q_turned_between_5 q_turned_between_6)
def d_turned_between : Df := ⟨2, 7, none,
    (.cons (.set 2 q_turned_between_3)
    (.cons (.ret (.blt .sorted (.cons q_turned_between_7 .nil)))
    .nil)), []⟩
/-! 3 turned_pairs: 0 first 1 second -/
def d_turned_pairs : Df := ⟨2, 2, none,
    (.cons (.exp (.call false 1 (.cons (.blt .len (.cons (.var 0) .nil)) (.cons (.lst false (.cons (.var 0) (.cons (.var 1) .nil))) .nil))))
    (.cons (.ret (.call false 2 (.cons (.var 0) (.cons (.var 1) .nil))))
    .nil)), []⟩
/-! 4 is_middle: 0 order 1 first 2 second 3 against 4 pair -/
def q_is_middle_1 : Xpo := .no
def q_is_middle_2 : Xp := (.cmp .isin (.var 4) (.var 3))
def q_is_middle_3 : Xp := (.lcm false (.seq (.call false 2 (.cons (.var 0) (.cons (.var 1) .nil)))) (.one 4) [4] q_is_middle_1 q_is_middle_2)
def d_is_middle : Df := ⟨3, 5, none,
    (.cons (.set 3 (.call false 2 (.cons (.var 0) (.cons (.var 2) .nil))))
    (.cons (.ret (.bnot (.blt .any (.cons q_is_middle_3 .nil))))
    .nil)), []⟩
/-! 5 lies_between: 0 order 1 first 2 second -/
def d_lies_between : Df := ⟨3, 3, none,
    (.cons (.exp (.call false 1 (.cons (.blt .len (.cons (.var 0) .nil)) (.cons (.lst false (.cons (.var 0) (.cons (.var 1) (.cons (.var 2) .nil)))) .nil))))
    (.cons (.ret (.call false 4 (.cons (.var 0) (.cons (.var 1) (.cons (.var 2) .nil)))))
    .nil)), []⟩
/-! 6 turning_at: 0 order 1 second 2 place 3 at 4 node -/
def q_turning_at_1 : Xp := (.var 4)
def q_turning_at_2 : Xp := (.var 3)
def q_turning_at_3 : Xp := (.dcm (.enm (.var 1)) (.many [3, 4]) [3, 4] q_turning_at_1 q_turning_at_2)
def q_turning_at_4 : Sxs := (.cons (.ife (.cmp .lt (.idx (.var 2) (.idx (.var 0) (.bop .add (.var 3) (.cst (.int 1))))) (.idx (.var 2) (.idx (.var 0) (.var 3))))
     (.cons (.retv 3)
     .nil)
     .nil)
  .nil)
def q_turning_at_5 : Sx := (.for_ (.rng1 (.bop .sub (.blt .len (.cons (.var 0) .nil)) (.cst (.int 1)))) (.one 3) q_turning_at_4)
def d_turning_at : Df := ⟨2, 5, none,
    (.cons (.set 2 q_turning_at_3)
    (.cons q_turning_at_5
    (.cons (.ret (.cst .non))
    .nil))), []⟩
/-! 7 exchange_way: 0 first 1 second 2 order 3 way 4 at -/
def q_exchange_way_1 : Xp := (.isk true (.var 4) .non)
def q_exchange_way_2 : Sxs := (.cons (.set 2 (.lst false (.star (.slc (.var 2) .no (.som (.var 4))) (.cons (.idx (.var 2) (.bop .add (.var 4) (.cst (.int 1)))) (.cons (.idx (.var 2) (.var 4)) (.star (.slc (.var 2) (.som (.bop .add (.var 4) (.cst (.int 2)))) .no) .nil))))))
  (.cons (.app true 3 (.blt .list (.cons (.var 2) .nil)))
  (.cons (.set 4 (.call false 6 (.cons (.var 2) (.cons (.var 1) .nil))))
  .nil)))
def q_exchange_way_3 : Sx := (.whl q_exchange_way_1 q_exchange_way_2)
def d_exchange_way : Df := ⟨2, 5, none,
    (.cons (.exp (.call false 1 (.cons (.blt .len (.cons (.var 0) .nil)) (.cons (.lst false (.cons (.var 0) (.cons (.var 1) .nil))) .nil))))
    (.cons (.set 2 (.blt .list (.cons (.var 0) .nil)))
    (.cons (.set 3 (.lst true (.cons (.blt .list (.cons (.var 0) .nil)) .nil)))
    (.cons (.set 4 (.call false 6 (.cons (.var 2) (.cons (.var 1) .nil))))
    (.cons q_exchange_way_3
    (.cons (.retv 3)
    .nil)))))), []⟩
/-! 8 _law_pot: 0 script 1 k 2 number -/
def d__law_pot : Df := ⟨2, 3, none,
    (.cons (.set 2 (.cst (.int 0)))
    (.cons (.ife (.cmp .lt (.var 1) (.blt .len (.cons (.var 0) .nil)))
     (.cons (.set 2 (.blt .abs (.cons (.idx (.var 0) (.var 1)) .nil)))
     .nil)
     .nil)
    (.cons (.ife (.cmp .lt (.var 2) (.bop .pow (.cst (.int 10)) (.cst (.int 18))))
     (.cons (.ret (.lst false (.cons (.bop .mod (.blt .int (.cons (.var 2) .nil)) (.cst (.int 2147483647))) (.cons (.cst (.int 0)) .nil))))
     .nil)
     .nil)
    (.cons (.ret (.lst false (.cons (.cst (.int 0)) (.cons (.bop .sub (.var 2) (.bop .pow (.cst (.int 10)) (.cst (.int 18)))) .nil))))
    .nil)))), []⟩
/-! 9 _law_draw: 0 pot 1 many 2 found -/
def d__law_draw : Df := ⟨2, 3, (some 0),
    (.cons (.ife (.cmp .eq (.idx (.var 0) (.cst (.int 0))) (.cst (.int 0)))
     (.cons (.set 2 (.bop .mod (.bop .mod (.blt .int (.cons (.idx (.var 0) (.cst (.int 1))) .nil)) (.cst (.int 1000))) (.var 1)))
     (.cons (.setix 0 (.cst (.int 1)) (.bop .fdiv (.blt .int (.cons (.idx (.var 0) (.cst (.int 1))) .nil)) (.cst (.int 1000))))
     (.cons (.retv 2)
     .nil)))
     .nil)
    (.cons (.setix 0 (.cst (.int 0)) (.bop .mod (.blt .int (.cons (.bop .mul (.idx (.var 0) (.cst (.int 0))) (.cst (.int 48271))) .nil)) (.cst (.int 2147483647))))
    (.cons (.ret (.bop .mod (.bop .mod (.blt .int (.cons (.bop .mul (.idx (.var 0) (.cst (.int 0))) (.idx (.var 0) (.cst (.int 0)))) .nil)) (.cst (.int 2147483629))) (.var 1)))
    .nil))), []⟩
/-! 10 _law_lined: 0 pot 1 size 2 line 3 node 4 at -/
def q__law_lined_1 : Sxs := (.cons (.set 4 (.call false 9 (.cons (.var 0) (.cons (.bop .add (.blt .len (.cons (.var 2) .nil)) (.cst (.int 1))) .nil))))
  (.cons (.set 2 (.bop .add (.bop .add (.slc (.var 2) .no (.som (.var 4))) (.lst false (.cons (.var 3) .nil))) (.slc (.var 2) (.som (.var 4)) .no)))
  .nil))
def q__law_lined_2 : Sx := (.for_ (.rng2 (.cst (.int 1)) (.bop .add (.var 1) (.cst (.int 1)))) (.one 3) q__law_lined_1)
def d__law_lined : Df := ⟨2, 5, (some 0),
    (.cons (.set 2 (.lst false .nil))
    (.cons q__law_lined_2
    (.cons (.retv 2)
    .nil))), []⟩
/-! 11 _law_turned: 0 first 1 second 2 found 3 x 4 y -/
def q__law_turned_1 : Sxs := (.cons (.ife (.band (.cons (.cmp .lt (.mth .index (.var 0) (.cons (.var 3) .nil)) (.mth .index (.var 0) (.cons (.var 4) .nil))) (.cons (.cmp .lt (.mth .index (.var 1) (.cons (.var 4) .nil)) (.mth .index (.var 1) (.cons (.var 3) .nil))) .nil)))
     (.cons (.app false 2 (.tup (.cons (.var 3) (.cons (.var 4) .nil))))
     .nil)
     .nil)
  .nil)
def q__law_turned_2 : Sx := (.for_ (.seq (.blt .sorted (.cons (.var 0) .nil))) (.one 4) q__law_turned_1)
def q__law_turned_3 : Sxs := (.cons q__law_turned_2
  .nil)
def q__law_turned_4 : Sx := (.for_ (.seq (.blt .sorted (.cons (.var 0) .nil))) (.one 3) q__law_turned_3)
def d__law_turned : Df := ⟨2, 5, none,
    (.cons (.set 2 (.lst false .nil))
    (.cons q__law_turned_4
    (.cons (.retv 2)
    .nil))), []⟩
/-! 12 _law_middle: 0 order 1 first 2 second 3 against 4 pair -/
def q__law_middle_1 : Xpo := .no
def q__law_middle_2 : Xp := (.cmp .notin (.var 4) (.var 3))
def q__law_middle_3 : Xp := (.lcm false (.seq (.call false 11 (.cons (.var 0) (.cons (.var 1) .nil)))) (.one 4) [4] q__law_middle_1 q__law_middle_2)
def d__law_middle : Df := ⟨3, 5, none,
    (.cons (.set 3 (.call false 11 (.cons (.var 0) (.cons (.var 2) .nil))))
    (.cons (.ret (.blt .all (.cons q__law_middle_3 .nil)))
    .nil)), []⟩
/-! 13 _law_next: 0 order 1 second 2 at -/
def q__law_next_1 : Sxs := (.cons (.ife (.cmp .lt (.mth .index (.var 1) (.cons (.idx (.var 0) (.bop .add (.var 2) (.cst (.int 1)))) .nil)) (.mth .index (.var 1) (.cons (.idx (.var 0) (.var 2)) .nil)))
     (.cons (.ret (.bop .add (.bop .add (.slc (.var 0) .no (.som (.var 2))) (.lst false (.cons (.idx (.var 0) (.bop .add (.var 2) (.cst (.int 1)))) (.cons (.idx (.var 0) (.var 2)) .nil)))) (.slc (.var 0) (.som (.bop .add (.var 2) (.cst (.int 2)))) .no)))
     .nil)
     .nil)
  .nil)
def q__law_next_2 : Sx := (.for_ (.rng1 (.bop .sub (.blt .len (.cons (.var 0) .nil)) (.cst (.int 1)))) (.one 2) q__law_next_1)
def d__law_next : Df := ⟨2, 3, none,
    (.cons q__law_next_2
    (.cons (.ret (.var 0))
    .nil)), []⟩
/-! 14 _law_pairs_right: 0 first 1 second 2 due 3 turn 4 told 5 pair -/
def q__law_pairs_right_1 : Xpo := .no
def q__law_pairs_right_2 : Xp := (.blt (.isi .tuple) (.cons (.var 5) .nil))
def q__law_pairs_right_3 : Xp := (.lcm false (.seq (.var 4)) (.one 5) [5] q__law_pairs_right_1 q__law_pairs_right_2)
def q__law_pairs_right_4 : Sxs := (.cons (.set 4 (.call false 3 (.cons (.blt .list (.cons (.var 0) .nil)) (.cons (.blt .tuple (.cons (.var 1) .nil)) .nil))))
  (.cons (.ife (.bor (.cons (.bnot (.blt (.isi .list) (.cons (.var 4) .nil))) (.cons (.bnot (.blt .all (.cons q__law_pairs_right_3 .nil))) (.cons (.cmp .ne (.var 4) (.var 2)) .nil))))
     (.cons (.ret (.cst (.bl false)))
     .nil)
     .nil)
  (.cons (.app false 4 (.tup (.cons (.cst (.int 0)) (.cons (.cst (.int 0)) .nil))))
  .nil)))
def q__law_pairs_right_5 : Sx := (.for_ (.rng1 (.cst (.int 2))) (.one 3) q__law_pairs_right_4)
def d__law_pairs_right : Df := ⟨2, 6, none,
    (.cons (.set 2 (.call false 11 (.cons (.var 0) (.cons (.var 1) .nil))))
    (.cons q__law_pairs_right_5
    (.cons (.ret (.cst (.bl true)))
    .nil))), []⟩
/-! 15 _law_way_right: 0 first 1 second 2 given 3 told 4 due 5 order -/
def q__law_way_right_1 : Sxs := (.cons (.ife (.bor (.cons (.bnot (.blt (.isi .list) (.cons (.var 5) .nil))) (.cons (.cmp .ne (.var 5) (.var 4)) (.cons (.bnot (.call false 12 (.cons (.var 5) (.cons (.var 0) (.cons (.var 1) .nil))))) .nil))))
     (.cons (.ret (.cst (.bl false)))
     .nil)
     .nil)
  (.cons (.ife (.isk true (.call false 5 (.cons (.var 5) (.cons (.var 0) (.cons (.var 1) .nil)))) (.bl true))
     (.cons (.ret (.cst (.bl false)))
     .nil)
     .nil)
  (.cons (.set 4 (.call false 13 (.cons (.var 4) (.cons (.var 1) .nil))))
  .nil)))
def q__law_way_right_2 : Sx := (.for_ (.seq (.var 3)) (.one 5) q__law_way_right_1)
def d__law_way_right : Df := ⟨2, 6, none,
    (.cons (.set 2 (.blt .list (.cons (.var 0) .nil)))
    (.cons (.set 3 (.call false 7 (.cons (.var 2) (.cons (.blt .list (.cons (.var 1) .nil)) .nil))))
    (.cons (.ife (.bor (.cons (.cmp .ne (.var 2) (.var 0)) (.cons (.bnot (.blt (.isi .list) (.cons (.var 3) .nil))) (.cons (.cmp .ne (.blt .len (.cons (.var 3) .nil)) (.bop .add (.blt .len (.cons (.call false 11 (.cons (.var 0) (.cons (.var 1) .nil))) .nil)) (.cst (.int 1)))) .nil))))
     (.cons (.ret (.cst (.bl false)))
     .nil)
     .nil)
    (.cons (.set 4 (.blt .list (.cons (.var 0) .nil)))
    (.cons q__law_way_right_2
    (.cons (.ife (.cmp .ne (.idx (.var 3) (.bop .sub (.blt .len (.cons (.var 3) .nil)) (.cst (.int 1)))) (.var 1))
     (.cons (.ret (.cst (.bl false)))
     .nil)
     .nil)
    (.cons (.scrap 2 3)
    (.cons (.ret (.cmp .eq (.idx (.call false 7 (.cons (.blt .tuple (.cons (.var 0) .nil)) (.cons (.var 1) .nil))) (.cst (.int 0))) (.var 0)))
    .nil)))))))), [0, 1]⟩
/-! 16 _law_refused: 0 kind 1 orders 2 told 3 error -/
def d__law_refused : Df := ⟨2, 4, none,
    (.cons (.set 2 (.lst false .nil))
    (.cons (.try_ (.cons (.ife (.cmp .eq (.var 0) (.cst (.int 0)))
     (.cons (.set 2 (.lst false (.cons (.call false 3 (.cons (.idx (.var 1) (.cst (.int 0))) (.cons (.idx (.var 1) (.cst (.int 1))) .nil))) .nil)))
     .nil)
     (.cons (.ife (.cmp .eq (.var 0) (.cst (.int 1)))
     (.cons (.set 2 (.lst false (.cons (.call false 7 (.cons (.idx (.var 1) (.cst (.int 0))) (.cons (.idx (.var 1) (.cst (.int 1))) .nil))) .nil)))
     .nil)
     (.cons (.set 2 (.lst false (.cons (.call false 5 (.cons (.idx (.var 1) (.cst (.int 0))) (.cons (.idx (.var 1) (.cst (.int 1))) (.cons (.idx (.var 1) (.cst (.int 2))) .nil)))) .nil)))
     .nil))
     .nil))
     .nil) 0 3 2 [.str "no", .fld, .isc 1])
    (.cons (.retv 2)
    .nil))), []⟩
/-! 17 _law_bad: 0 pot 1 line 2 kind 3 at -/
def d__law_bad : Df := ⟨2, 4, (some 0),
    (.cons (.set 2 (.call false 9 (.cons (.var 0) (.cons (.cst (.int 4)) .nil))))
    (.cons (.ife (.bor (.cons (.cmp .eq (.var 2) (.cst (.int 0))) (.cons (.bnot (.var 1)) .nil)))
     (.cons (.ret (.bop .add (.var 1) (.lst false (.cons (.bop .add (.blt .len (.cons (.var 1) .nil)) (.cst (.int 2))) .nil))))
     .nil)
     .nil)
    (.cons (.set 3 (.call false 9 (.cons (.var 0) (.cons (.blt .len (.cons (.var 1) .nil)) .nil))))
    (.cons (.ife (.cmp .eq (.var 2) (.cst (.int 1)))
     (.cons (.ret (.bop .add (.bop .add (.slc (.var 1) .no (.som (.var 3))) (.lst false (.cons (.cst (.int 0)) .nil))) (.slc (.var 1) (.som (.bop .add (.var 3) (.cst (.int 1)))) .no)))
     .nil)
     .nil)
    (.cons (.ife (.cmp .eq (.var 2) (.cst (.int 2)))
     (.cons (.ret (.bop .add (.bop .add (.slc (.var 1) .no (.som (.var 3))) (.lst false (.cons (.bop .add (.blt .len (.cons (.var 1) .nil)) (.cst (.int 1))) .nil))) (.slc (.var 1) (.som (.bop .add (.var 3) (.cst (.int 1)))) .no)))
     .nil)
     .nil)
    (.cons (.ret (.bop .add (.var 1) (.lst false (.cons (.idx (.var 1) (.var 3)) .nil))))
    .nil)))))), []⟩
/-! 18 _law_bad_right: 0 pot 1 lines 2 bad 3 at 4 orders 5 due 6 kind 7 order -/
def q__law_bad_right_1 : Xpo := .no
def q__law_bad_right_2 : Xp := (.blt .list (.cons (.var 7) .nil))
def q__law_bad_right_3 : Xp := (.lcm false (.seq (.var 4)) (.one 7) [7] q__law_bad_right_1 q__law_bad_right_2)
def q__law_bad_right_4 : Sxs := (.cons (.ife (.cmp .ne (.call false 16 (.cons (.var 6) (.cons q__law_bad_right_3 .nil))) (.var 5))
     (.cons (.ret (.cst (.bl false)))
     .nil)
     .nil)
  .nil)
def q__law_bad_right_5 : Sx := (.for_ (.rng2 (.ife (.cmp .eq (.var 3) (.cst (.int 2))) (.cst (.int 2)) (.cst (.int 0))) (.cst (.int 3))) (.one 6) q__law_bad_right_4)
def q__law_bad_right_6 : Sxs := (.cons (.set 4 (.blt .list (.cons (.var 1) .nil)))
  (.cons (.setix 4 (.var 3) (.var 2))
  (.cons (.set 5 (.lst false (.cons (.cst (.str "no")) (.cons (.blt .tuple (.cons (.var 2) .nil)) (.cons (.cst (.bl false)) .nil)))))
  (.cons (.ife (.bor (.cons (.cmp .gt (.var 3) (.cst (.int 0))) (.cons (.cmp .eq (.call false 9 (.cons (.var 0) (.cons (.cst (.int 2)) .nil))) (.cst (.int 0))) .nil)))
     (.cons (.frz 4)
     (.cons q__law_bad_right_5
     .nil))
     .nil)
  .nil))))
def q__law_bad_right_7 : Sx := (.for_ (.rng1 (.cst (.int 3))) (.one 3) q__law_bad_right_6)
def d__law_bad_right : Df := ⟨2, 8, (some 0),
    (.cons (.set 2 (.call false 17 (.cons (.var 0) (.cons (.idx (.var 1) (.cst (.int 0))) .nil))))
    (.cons q__law_bad_right_7
    (.cons (.ret (.cmp .eq (.call false 16 (.cons (.cst (.int 2)) (.cons (.lst false (.cons (.blt .list (.cons (.idx (.var 1) (.cst (.int 0))) .nil)) (.cons (.blt .tuple (.cons (.var 2) .nil)) (.cons (.bop .add (.blt .list (.cons (.var 2) .nil)) (.lst false (.cons (.cst (.int 0)) .nil))) .nil)))) .nil))) (.lst false (.cons (.cst (.str "no")) (.cons (.blt .tuple (.cons (.var 2) .nil)) (.cons (.cst (.bl false)) .nil))))))
    .nil))), []⟩
/-! 19 law: 0 script 1 pot 2 size 3 first 4 second 5 third 6 order 7 told 8 k -/
def q_law_1 : Xpo := .no
def q_law_2 : Xp := (.call false 10 (.cons (.var 1) (.cons (.var 2) .nil)))
def q_law_3 : Xp := (.lcm false (.rng1 (.cst (.int 3))) (.one 8) [8] q_law_1 q_law_2)
def q_law_4 : Sxs := (.cons (.set 7 (.call false 5 (.cons (.blt .list (.cons (.var 6) .nil)) (.cons (.blt .list (.cons (.var 3) .nil)) (.cons (.blt .list (.cons (.var 4) .nil)) .nil)))))
  (.cons (.ife (.bor (.cons (.bnot (.blt (.isi .bool) (.cons (.var 7) .nil))) (.cons (.cmp .ne (.var 7) (.call false 12 (.cons (.var 6) (.cons (.var 3) (.cons (.var 4) .nil))))) .nil)))
     (.cons (.ret (.cst (.bl false)))
     .nil)
     .nil)
  .nil))
def q_law_5 : Sx := (.for_ (.seq (.lst false (.cons (.var 5) (.cons (.blt .listrev (.cons (.var 3) .nil)) (.cons (.var 3) .nil))))) (.one 6) q_law_4)
def d_law : Df := ⟨1, 9, none,
    (.cons (.set 1 (.call false 8 (.cons (.var 0) (.cons (.cst (.int 0)) .nil))))
    (.cons (.set 2 (.idx (.lst false (.cons (.cst (.int 3)) (.cons (.cst (.int 0)) (.cons (.cst (.int 1)) (.cons (.cst (.int 2)) (.cons (.cst (.int 4)) (.cons (.cst (.int 5)) (.cons (.cst (.int 6)) (.cons (.cst (.int 7)) .nil))))))))) (.call false 9 (.cons (.var 1) (.cons (.cst (.int 8)) .nil)))))
    (.cons (.many [3, 4, 5] q_law_3)
    (.cons (.ife (.bor (.cons (.bnot (.call false 14 (.cons (.var 3) (.cons (.var 4) .nil)))) (.cons (.bnot (.call false 14 (.cons (.var 4) (.cons (.var 5) .nil)))) .nil)))
     (.cons (.ret (.cst (.bl false)))
     .nil)
     .nil)
    (.cons (.ife (.bor (.cons (.bnot (.call false 15 (.cons (.var 3) (.cons (.var 4) .nil)))) (.cons (.bnot (.call false 15 (.cons (.var 3) (.cons (.blt .listrev (.cons (.var 3) .nil)) .nil)))) .nil)))
     (.cons (.ret (.cst (.bl false)))
     .nil)
     .nil)
    (.cons q_law_5
    (.cons (.ife (.isk true (.call false 5 (.cons (.var 5) (.cons (.var 3) (.cons (.blt .listrev (.cons (.var 3) .nil)) .nil)))) (.bl true))
     (.cons (.ret (.cst (.bl false)))
     .nil)
     .nil)
    (.cons (.ife (.cmp .ne (.call false 5 (.cons (.var 5) (.cons (.var 3) (.cons (.var 3) .nil)))) (.cmp .eq (.var 5) (.var 3)))
     (.cons (.ret (.cst (.bl false)))
     .nil)
     .nil)
    (.cons (.ret (.call false 18 (.cons (.call false 8 (.cons (.var 0) (.cons (.cst (.int 1)) .nil))) (.cons (.lst false (.cons (.var 3) (.cons (.var 4) (.cons (.var 5) .nil)))) .nil))))
    .nil))))))))), []⟩
def tab : List Df := [d_is_order, d_check_orders, d_turned_between, d_turned_pairs, d_is_middle, d_lies_between, d_turning_at, d_exchange_way, d__law_pot, d__law_draw, d__law_lined, d__law_turned, d__law_middle, d__law_next, d__law_pairs_right, d__law_way_right, d__law_refused, d__law_bad, d__law_bad_right, d_law]
end K28
end KL
end
section
set_option Elab.async false
set_option linter.all false
set_option maxRecDepth 100000
set_option maxHeartbeats 0
/-! The head: what the text's top leaves (printed by gen_head.py). -/
namespace KL
namespace K28
open PySem PySem.Spec PyProof.Rows L2 PySem.W
abbrev prg : Program := PySem.Challenge.pw_keptlayers_k28_orders_between_and_ways
def top (i : Nat) : Stmt := prg.main.body.getD i (.Pass ⟨0, 0, 0, 0⟩)
abbrev s_is_order : Stmt := top 5
abbrev s_check_orders : Stmt := top 7
abbrev s_turned_between : Stmt := top 8
abbrev s_turned_pairs : Stmt := top 9
abbrev s_is_middle : Stmt := top 10
abbrev s_lies_between : Stmt := top 11
abbrev s_turning_at : Stmt := top 12
abbrev s_exchange_way : Stmt := top 13
abbrev s__law_pot : Stmt := top 15
abbrev s__law_draw : Stmt := top 16
abbrev s__law_lined : Stmt := top 17
abbrev s__law_turned : Stmt := top 18
abbrev s__law_middle : Stmt := top 19
abbrev s__law_next : Stmt := top 20
abbrev s__law_pairs_right : Stmt := top 21
abbrev s__law_way_right : Stmt := top 22
abbrev s__law_refused : Stmt := top 23
abbrev s__law_bad : Stmt := top 24
abbrev s__law_bad_right : Stmt := top 25
abbrev s_law : Stmt := top 26
abbrev i_InvalidOrder : Stmt := inClass (top 2) 0
abbrev i_InvalidArrow : Stmt := inClass (top 3) 0
def N_is_order : List Str := ["size", "order"]
def N_check_orders : List Str := ["size", "listings", "listing"]
def N_turned_between : List Str := ["first", "second", "place", "at", "node", "y", "x"]
def N_turned_pairs : List Str := ["first", "second"]
def N_is_middle : List Str := ["order", "first", "second", "against", "pair"]
def N_lies_between : List Str := ["order", "first", "second"]
def N_turning_at : List Str := ["order", "second", "place", "at", "node"]
def N_exchange_way : List Str := ["first", "second", "order", "way", "at"]
def N__law_pot : List Str := ["script", "k", "number"]
def N__law_draw : List Str := ["pot", "many", "found"]
def N__law_lined : List Str := ["pot", "size", "line", "node", "at"]
def N__law_turned : List Str := ["first", "second", "found", "x", "y"]
def N__law_middle : List Str := ["order", "first", "second", "against", "pair"]
def N__law_next : List Str := ["order", "second", "at"]
def N__law_pairs_right : List Str := ["first", "second", "due", "turn", "told", "pair"]
def N__law_way_right : List Str := ["first", "second", "given", "told", "due", "order"]
def N__law_refused : List Str := ["kind", "orders", "told", "error"]
def N__law_bad : List Str := ["pot", "line", "kind", "at"]
def N__law_bad_right : List Str := ["pot", "lines", "bad", "at", "orders", "due", "kind", "order"]
def N_law : List Str := ["script", "pot", "size", "first", "second", "third", "order", "told", "k"]
def cfg : Cfg where
  N := []
  defs := [("is_order", 2), ("check_orders", 2), ("turned_between", 2), ("turned_pairs", 2), ("is_middle", 3), ("lies_between", 3), ("turning_at", 2), ("exchange_way", 2), ("_law_pot", 2), ("_law_draw", 2), ("_law_lined", 2), ("_law_turned", 2), ("_law_middle", 3), ("_law_next", 2), ("_law_pairs_right", 2), ("_law_way_right", 2), ("_law_refused", 2), ("_law_bad", 2), ("_law_bad_right", 2), ("law", 1)]
  lent := fun f => match tab[f]? with | some d => d.lent | none => none
  excs := [("InvalidOrder", "listing"), ("InvalidArrow", "arrow")]
def xds : List XD := [⟨"InvalidOrder", "listing", "InvalidOrder.__init__", i_InvalidOrder⟩, ⟨"InvalidArrow", "arrow", "InvalidArrow.__init__", i_InvalidArrow⟩]
def kds : List KD := [⟨("is_order", none), "is_order", s_is_order, []⟩, ⟨("check_orders", none), "check_orders", s_check_orders, []⟩, ⟨("turned_between", none), "turned_between", s_turned_between, []⟩, ⟨("turned_pairs", none), "turned_pairs", s_turned_pairs, []⟩, ⟨("is_middle", none), "is_middle", s_is_middle, []⟩, ⟨("lies_between", none), "lies_between", s_lies_between, []⟩, ⟨("turning_at", none), "turning_at", s_turning_at, []⟩, ⟨("exchange_way", none), "exchange_way", s_exchange_way, []⟩, ⟨("_law_pot", none), "_law_pot", s__law_pot, []⟩, ⟨("_law_draw", none), "_law_draw", s__law_draw, []⟩, ⟨("_law_lined", none), "_law_lined", s__law_lined, []⟩, ⟨("_law_turned", none), "_law_turned", s__law_turned, []⟩, ⟨("_law_middle", none), "_law_middle", s__law_middle, []⟩, ⟨("_law_next", none), "_law_next", s__law_next, []⟩, ⟨("_law_pairs_right", none), "_law_pairs_right", s__law_pairs_right, []⟩, ⟨("_law_way_right", none), "_law_way_right", s__law_way_right, []⟩, ⟨("_law_refused", none), "_law_refused", s__law_refused, []⟩, ⟨("_law_bad", none), "_law_bad", s__law_bad, []⟩, ⟨("_law_bad_right", none), "_law_bad_right", s__law_bad_right, []⟩, ⟨("law", none), "law", s_law, []⟩] ++ xds.map XD.kd
theorem look_is_order : cSs { cfg with N := N_is_order } (defScope s_is_order) true d_is_order.body (defBody s_is_order) = true := by kernel_rfl
theorem sc_is_order : FnScope N_is_order ["size", "order"] (defScope s_is_order) := ⟨rfl, rfl, rfl, by decide +kernel, rfl, by decide +kernel, by decide +kernel⟩
theorem look_check_orders : cSs { cfg with N := N_check_orders } (defScope s_check_orders) true d_check_orders.body (defBody s_check_orders) = true := by kernel_rfl
theorem sc_check_orders : FnScope N_check_orders ["size", "listings"] (defScope s_check_orders) := ⟨rfl, rfl, rfl, by decide +kernel, rfl, by decide +kernel, by decide +kernel⟩
theorem look_turned_between : cSs { cfg with N := N_turned_between } (defScope s_turned_between) true d_turned_between.body (defBody s_turned_between) = true := by kernel_rfl
theorem sc_turned_between : FnScope N_turned_between ["first", "second"] (defScope s_turned_between) := ⟨rfl, rfl, rfl, by decide +kernel, rfl, by decide +kernel, by decide +kernel⟩
theorem look_turned_pairs : cSs { cfg with N := N_turned_pairs } (defScope s_turned_pairs) true d_turned_pairs.body (defBody s_turned_pairs) = true := by kernel_rfl
theorem sc_turned_pairs : FnScope N_turned_pairs ["first", "second"] (defScope s_turned_pairs) := ⟨rfl, rfl, rfl, by decide +kernel, rfl, by decide +kernel, by decide +kernel⟩
theorem look_is_middle : cSs { cfg with N := N_is_middle } (defScope s_is_middle) true d_is_middle.body (defBody s_is_middle) = true := by kernel_rfl
theorem sc_is_middle : FnScope N_is_middle ["order", "first", "second"] (defScope s_is_middle) := ⟨rfl, rfl, rfl, by decide +kernel, rfl, by decide +kernel, by decide +kernel⟩
theorem look_lies_between : cSs { cfg with N := N_lies_between } (defScope s_lies_between) true d_lies_between.body (defBody s_lies_between) = true := by kernel_rfl
theorem sc_lies_between : FnScope N_lies_between ["order", "first", "second"] (defScope s_lies_between) := ⟨rfl, rfl, rfl, by decide +kernel, rfl, by decide +kernel, by decide +kernel⟩
theorem look_turning_at : cSs { cfg with N := N_turning_at } (defScope s_turning_at) true d_turning_at.body (defBody s_turning_at) = true := by kernel_rfl
theorem sc_turning_at : FnScope N_turning_at ["order", "second"] (defScope s_turning_at) := ⟨rfl, rfl, rfl, by decide +kernel, rfl, by decide +kernel, by decide +kernel⟩
theorem look_exchange_way : cSs { cfg with N := N_exchange_way } (defScope s_exchange_way) true d_exchange_way.body (defBody s_exchange_way) = true := by kernel_rfl
theorem sc_exchange_way : FnScope N_exchange_way ["first", "second"] (defScope s_exchange_way) := ⟨rfl, rfl, rfl, by decide +kernel, rfl, by decide +kernel, by decide +kernel⟩
theorem look__law_pot : cSs { cfg with N := N__law_pot } (defScope s__law_pot) true d__law_pot.body (defBody s__law_pot) = true := by kernel_rfl
theorem sc__law_pot : FnScope N__law_pot ["script", "k"] (defScope s__law_pot) := ⟨rfl, rfl, rfl, by decide +kernel, rfl, by decide +kernel, by decide +kernel⟩
theorem look__law_draw : cSs { cfg with N := N__law_draw } (defScope s__law_draw) true d__law_draw.body (defBody s__law_draw) = true := by kernel_rfl
theorem sc__law_draw : FnScope N__law_draw ["pot", "many"] (defScope s__law_draw) := ⟨rfl, rfl, rfl, by decide +kernel, rfl, by decide +kernel, by decide +kernel⟩
theorem look__law_lined : cSs { cfg with N := N__law_lined } (defScope s__law_lined) true d__law_lined.body (defBody s__law_lined) = true := by kernel_rfl
theorem sc__law_lined : FnScope N__law_lined ["pot", "size"] (defScope s__law_lined) := ⟨rfl, rfl, rfl, by decide +kernel, rfl, by decide +kernel, by decide +kernel⟩
theorem look__law_turned : cSs { cfg with N := N__law_turned } (defScope s__law_turned) true d__law_turned.body (defBody s__law_turned) = true := by kernel_rfl
theorem sc__law_turned : FnScope N__law_turned ["first", "second"] (defScope s__law_turned) := ⟨rfl, rfl, rfl, by decide +kernel, rfl, by decide +kernel, by decide +kernel⟩
theorem look__law_middle : cSs { cfg with N := N__law_middle } (defScope s__law_middle) true d__law_middle.body (defBody s__law_middle) = true := by kernel_rfl
theorem sc__law_middle : FnScope N__law_middle ["order", "first", "second"] (defScope s__law_middle) := ⟨rfl, rfl, rfl, by decide +kernel, rfl, by decide +kernel, by decide +kernel⟩
theorem look__law_next : cSs { cfg with N := N__law_next } (defScope s__law_next) true d__law_next.body (defBody s__law_next) = true := by kernel_rfl
theorem sc__law_next : FnScope N__law_next ["order", "second"] (defScope s__law_next) := ⟨rfl, rfl, rfl, by decide +kernel, rfl, by decide +kernel, by decide +kernel⟩
theorem look__law_pairs_right : cSs { cfg with N := N__law_pairs_right } (defScope s__law_pairs_right) true d__law_pairs_right.body (defBody s__law_pairs_right) = true := by kernel_rfl
theorem sc__law_pairs_right : FnScope N__law_pairs_right ["first", "second"] (defScope s__law_pairs_right) := ⟨rfl, rfl, rfl, by decide +kernel, rfl, by decide +kernel, by decide +kernel⟩
theorem look__law_way_right : cSs { cfg with N := N__law_way_right } (defScope s__law_way_right) true d__law_way_right.body (defBody s__law_way_right) = true := by kernel_rfl
theorem sc__law_way_right : FnScope N__law_way_right ["first", "second"] (defScope s__law_way_right) := ⟨rfl, rfl, rfl, by decide +kernel, rfl, by decide +kernel, by decide +kernel⟩
theorem look__law_refused : cSs { cfg with N := N__law_refused } (defScope s__law_refused) true d__law_refused.body (defBody s__law_refused) = true := by kernel_rfl
theorem sc__law_refused : FnScope N__law_refused ["kind", "orders"] (defScope s__law_refused) := ⟨rfl, rfl, rfl, by decide +kernel, rfl, by decide +kernel, by decide +kernel⟩
theorem look__law_bad : cSs { cfg with N := N__law_bad } (defScope s__law_bad) true d__law_bad.body (defBody s__law_bad) = true := by kernel_rfl
theorem sc__law_bad : FnScope N__law_bad ["pot", "line"] (defScope s__law_bad) := ⟨rfl, rfl, rfl, by decide +kernel, rfl, by decide +kernel, by decide +kernel⟩
theorem look__law_bad_right : cSs { cfg with N := N__law_bad_right } (defScope s__law_bad_right) true d__law_bad_right.body (defBody s__law_bad_right) = true := by kernel_rfl
theorem sc__law_bad_right : FnScope N__law_bad_right ["pot", "lines"] (defScope s__law_bad_right) := ⟨rfl, rfl, rfl, by decide +kernel, rfl, by decide +kernel, by decide +kernel⟩
theorem look_law : cSs { cfg with N := N_law } (defScope s_law) true d_law.body (defBody s_law) = true := by kernel_rfl
theorem sc_law : FnScope N_law ["script"] (defScope s_law) := ⟨rfl, rfl, rfl, by decide +kernel, rfl, by decide +kernel, by decide +kernel⟩
def exs : List Str := ["InvalidOrder", "InvalidArrow"]
def ex (K : PySem.W.Frag) : Bool := (cfg.defs.all fun p => He.eqO (PySem.W.nsIn K mainGlobals p.1) (some (some (.ref (He.ga K p.1))))) && ((bltAll ++ [Str.ofString "super"]).all fun n => He.eqO (PySem.W.nsIn K mainGlobals n) (some none)) && (xds.all fun x => x.ok K prg) &&
  ((List.range exs.length).all fun c => (List.range exs.length).all fun c2 => decide (PySem.W.kitOne K (.ref (He.ga K (exs.getD c ""))) (.ref (He.ga K (exs.getD c2 ""))) = some (decide (c2 = c))))
def loose : List Str := ["KeptError", "InvalidOrder", "InvalidArrow", "is_order", "check_orders", "turned_between", "turned_pairs", "is_middle", "lies_between", "turning_at", "exchange_way", "_law_pot", "_law_draw", "_law_lined", "_law_turned", "_law_middle", "_law_next", "_law_pairs_right", "_law_way_right", "_law_refused", "_law_bad", "_law_bad_right"]
abbrev R : PySem.W.OpenRow := PySem.W.OpenLaw.row PySem.Challenge.rw_keptlayers_k28_orders_between_and_ways
abbrev hk : PySem.W.Hook := hookK 5 kds ex
def ob (s : PySem.W.SharedT) : Bool × List KW := obsK 5 kds ex (HandSHeadRun.getT s)
theorem ob_eq (s : PySem.W.SharedT) : ob s = hk.obs s.abs := obsK_eq (HandSHeadRun.getT_eq s)
def lawIx : Nat := 26
abbrev qv : Program := PySem.W.view R.prog [26]
theorem run (w : World) : HandSHeadRun.RunEq R qv hk ob 4000 loose w := by
  intro os
  kernel_rfl
end K28
end KL
end
section
set_option Elab.async false
set_option linter.all false
set_option maxRecDepth 100000
set_option maxHeartbeats 4000000
/-! The table of defs stands in what the top leaves (printed by gen_head.py). -/
namespace KL
namespace K28
open PySem PySem.Spec PyProof.Rows L2 PySem.W He
def thK (K : PySem.W.Frag) : Pm := ⟨K, fun c => He.ga K (exs.getD c ""), fun c => (xds.map XD.fld).getD c ""⟩
section
variable {w : World} {K : PySem.W.Frag} {h base : Heap} {mg : Str → Option Value}
theorem exA (c : SaysK kds ex K) : ∀ p ∈ cfg.defs, PySem.W.nsIn K mainGlobals p.1 = some (some (.ref (He.ga K p.1))) := fun p hp => by
  have e := c.ex
  unfold ex at e
  exact eqO_ok (List.all_eq_true.mp (ba (ba (ba e).1).1).1 p hp)
theorem exB (c : SaysK kds ex K) : ∀ n ∈ bltAll ++ [Str.ofString "super"], PySem.W.nsIn K mainGlobals n = some none := fun p hp => by
  have e := c.ex
  unfold ex at e
  exact eqO_ok (List.all_eq_true.mp (ba (ba (ba e).1).1).2 p hp)
theorem exC (c : SaysK kds ex K) : ∀ x ∈ xds, x.ok K prg = true := fun p hp => by
  have e := c.ex
  unfold ex at e
  exact List.all_eq_true.mp (ba (ba e).1).2 p hp
theorem exD (c : SaysK kds ex K) : ∀ i, i < exs.length → ∀ j, j < exs.length → PySem.W.kitOne K (.ref (He.ga K (exs.getD i ""))) (.ref (He.ga K (exs.getD j ""))) = some (decide (j = i)) := fun i hi j hj => by
  have e := c.ex
  unfold ex at e
  exact of_decide_eq_true (List.all_eq_true.mp (List.all_eq_true.mp (ba e).2 i (List.mem_range.mpr hi)) j (List.mem_range.mpr hj))
theorem defAt {d : Df} {nm : Str} {st : Stmt} {N ps : List Str} (KX : K.In h) (G : h.Ns mainGlobals mg) (c : SaysK kds ex K) (i : Nat) (hk : kds[i]? = some ⟨(nm, none), nm, st, []⟩) (hd : cfg.defs[i]? = some (nm, ps.length)) (hn : defNm st = nm)
    (hb : ∀ (kV doc pm : Value) (an : Option Addr) (cdv ct : Value) (us : List Value), us.length = ps.length → bindArgs (PySem.W.fnOf nm nm (defArgs st) (defBody st) (defScope st) .none kV doc pm an cdv ct) ⟨us, []⟩ = pure (ps.zip us))
    (hp : ps.length = d.pars) (hs : N.length = d.slots) (S : FnScope N ps (defScope st)) (lk : cSs { cfg with N := N } (defScope st) true d.body (defBody st) = true) : ∃ fa fd, DefAt K mg cfg d nm fa fd N ps := by
  obtain ⟨k1, k2⟩ := c.defs _ (List.mem_of_getElem? hk)
  obtain ⟨fd, F⟩ := KD.fun k2 k1 rfl
  have F : Fun K (defNm st) nm st (fAd K (nm, none)) fd := F
  rw [hn] at F
  have hba : ∀ (s : Shared) (us : List Value), us.length = ps.length → BindsTo s fd ⟨us, []⟩ (ps.zip us) := fun s us hl => by
    obtain ⟨oc, od, kV, doc, pm, an, cdv, ct, osl, rfl, _, _⟩ := F.ex
    exact .of_eq (hb kV doc pm an cdv ct us hl)
  exact ⟨_, fd, PySem.W.mg_of KX G (exA c _ (List.mem_of_getElem? hd)), F.kp, F.binds hb, hba, hp, hs, nm, st, F, S, lk⟩
theorem at_is_order (KX : K.In h) (G : h.Ns mainGlobals mg) (c : SaysK kds ex K) : ∃ fa fd, DefAt K mg cfg d_is_order "is_order" fa fd N_is_order ["size", "order"] :=
  defAt KX G c 0 rfl rfl rfl (fun _ _ _ _ _ _ us hl => match us, hl with | [_, _], _ => rfl) rfl rfl sc_is_order look_is_order
theorem at_check_orders (KX : K.In h) (G : h.Ns mainGlobals mg) (c : SaysK kds ex K) : ∃ fa fd, DefAt K mg cfg d_check_orders "check_orders" fa fd N_check_orders ["size", "listings"] :=
  defAt KX G c 1 rfl rfl rfl (fun _ _ _ _ _ _ us hl => match us, hl with | [_, _], _ => rfl) rfl rfl sc_check_orders look_check_orders
theorem at_turned_between (KX : K.In h) (G : h.Ns mainGlobals mg) (c : SaysK kds ex K) : ∃ fa fd, DefAt K mg cfg d_turned_between "turned_between" fa fd N_turned_between ["first", "second"] :=
  defAt KX G c 2 rfl rfl rfl (fun _ _ _ _ _ _ us hl => match us, hl with | [_, _], _ => rfl) rfl rfl sc_turned_between look_turned_between
theorem at_turned_pairs (KX : K.In h) (G : h.Ns mainGlobals mg) (c : SaysK kds ex K) : ∃ fa fd, DefAt K mg cfg d_turned_pairs "turned_pairs" fa fd N_turned_pairs ["first", "second"] :=
  defAt KX G c 3 rfl rfl rfl (fun _ _ _ _ _ _ us hl => match us, hl with | [_, _], _ => rfl) rfl rfl sc_turned_pairs look_turned_pairs
theorem at_is_middle (KX : K.In h) (G : h.Ns mainGlobals mg) (c : SaysK kds ex K) : ∃ fa fd, DefAt K mg cfg d_is_middle "is_middle" fa fd N_is_middle ["order", "first", "second"] :=
  defAt KX G c 4 rfl rfl rfl (fun _ _ _ _ _ _ us hl => match us, hl with | [_, _, _], _ => rfl) rfl rfl sc_is_middle look_is_middle
theorem at_lies_between (KX : K.In h) (G : h.Ns mainGlobals mg) (c : SaysK kds ex K) : ∃ fa fd, DefAt K mg cfg d_lies_between "lies_between" fa fd N_lies_between ["order", "first", "second"] :=
  defAt KX G c 5 rfl rfl rfl (fun _ _ _ _ _ _ us hl => match us, hl with | [_, _, _], _ => rfl) rfl rfl sc_lies_between look_lies_between
theorem at_turning_at (KX : K.In h) (G : h.Ns mainGlobals mg) (c : SaysK kds ex K) : ∃ fa fd, DefAt K mg cfg d_turning_at "turning_at" fa fd N_turning_at ["order", "second"] :=
  defAt KX G c 6 rfl rfl rfl (fun _ _ _ _ _ _ us hl => match us, hl with | [_, _], _ => rfl) rfl rfl sc_turning_at look_turning_at
theorem at_exchange_way (KX : K.In h) (G : h.Ns mainGlobals mg) (c : SaysK kds ex K) : ∃ fa fd, DefAt K mg cfg d_exchange_way "exchange_way" fa fd N_exchange_way ["first", "second"] :=
  defAt KX G c 7 rfl rfl rfl (fun _ _ _ _ _ _ us hl => match us, hl with | [_, _], _ => rfl) rfl rfl sc_exchange_way look_exchange_way
theorem at__law_pot (KX : K.In h) (G : h.Ns mainGlobals mg) (c : SaysK kds ex K) : ∃ fa fd, DefAt K mg cfg d__law_pot "_law_pot" fa fd N__law_pot ["script", "k"] :=
  defAt KX G c 8 rfl rfl rfl (fun _ _ _ _ _ _ us hl => match us, hl with | [_, _], _ => rfl) rfl rfl sc__law_pot look__law_pot
theorem at__law_draw (KX : K.In h) (G : h.Ns mainGlobals mg) (c : SaysK kds ex K) : ∃ fa fd, DefAt K mg cfg d__law_draw "_law_draw" fa fd N__law_draw ["pot", "many"] :=
  defAt KX G c 9 rfl rfl rfl (fun _ _ _ _ _ _ us hl => match us, hl with | [_, _], _ => rfl) rfl rfl sc__law_draw look__law_draw
theorem at__law_lined (KX : K.In h) (G : h.Ns mainGlobals mg) (c : SaysK kds ex K) : ∃ fa fd, DefAt K mg cfg d__law_lined "_law_lined" fa fd N__law_lined ["pot", "size"] :=
  defAt KX G c 10 rfl rfl rfl (fun _ _ _ _ _ _ us hl => match us, hl with | [_, _], _ => rfl) rfl rfl sc__law_lined look__law_lined
theorem at__law_turned (KX : K.In h) (G : h.Ns mainGlobals mg) (c : SaysK kds ex K) : ∃ fa fd, DefAt K mg cfg d__law_turned "_law_turned" fa fd N__law_turned ["first", "second"] :=
  defAt KX G c 11 rfl rfl rfl (fun _ _ _ _ _ _ us hl => match us, hl with | [_, _], _ => rfl) rfl rfl sc__law_turned look__law_turned
theorem at__law_middle (KX : K.In h) (G : h.Ns mainGlobals mg) (c : SaysK kds ex K) : ∃ fa fd, DefAt K mg cfg d__law_middle "_law_middle" fa fd N__law_middle ["order", "first", "second"] :=
  defAt KX G c 12 rfl rfl rfl (fun _ _ _ _ _ _ us hl => match us, hl with | [_, _, _], _ => rfl) rfl rfl sc__law_middle look__law_middle
theorem at__law_next (KX : K.In h) (G : h.Ns mainGlobals mg) (c : SaysK kds ex K) : ∃ fa fd, DefAt K mg cfg d__law_next "_law_next" fa fd N__law_next ["order", "second"] :=
  defAt KX G c 13 rfl rfl rfl (fun _ _ _ _ _ _ us hl => match us, hl with | [_, _], _ => rfl) rfl rfl sc__law_next look__law_next
theorem at__law_pairs_right (KX : K.In h) (G : h.Ns mainGlobals mg) (c : SaysK kds ex K) : ∃ fa fd, DefAt K mg cfg d__law_pairs_right "_law_pairs_right" fa fd N__law_pairs_right ["first", "second"] :=
  defAt KX G c 14 rfl rfl rfl (fun _ _ _ _ _ _ us hl => match us, hl with | [_, _], _ => rfl) rfl rfl sc__law_pairs_right look__law_pairs_right
theorem at__law_way_right (KX : K.In h) (G : h.Ns mainGlobals mg) (c : SaysK kds ex K) : ∃ fa fd, DefAt K mg cfg d__law_way_right "_law_way_right" fa fd N__law_way_right ["first", "second"] :=
  defAt KX G c 15 rfl rfl rfl (fun _ _ _ _ _ _ us hl => match us, hl with | [_, _], _ => rfl) rfl rfl sc__law_way_right look__law_way_right
theorem at__law_refused (KX : K.In h) (G : h.Ns mainGlobals mg) (c : SaysK kds ex K) : ∃ fa fd, DefAt K mg cfg d__law_refused "_law_refused" fa fd N__law_refused ["kind", "orders"] :=
  defAt KX G c 16 rfl rfl rfl (fun _ _ _ _ _ _ us hl => match us, hl with | [_, _], _ => rfl) rfl rfl sc__law_refused look__law_refused
theorem at__law_bad (KX : K.In h) (G : h.Ns mainGlobals mg) (c : SaysK kds ex K) : ∃ fa fd, DefAt K mg cfg d__law_bad "_law_bad" fa fd N__law_bad ["pot", "line"] :=
  defAt KX G c 17 rfl rfl rfl (fun _ _ _ _ _ _ us hl => match us, hl with | [_, _], _ => rfl) rfl rfl sc__law_bad look__law_bad
theorem at__law_bad_right (KX : K.In h) (G : h.Ns mainGlobals mg) (c : SaysK kds ex K) : ∃ fa fd, DefAt K mg cfg d__law_bad_right "_law_bad_right" fa fd N__law_bad_right ["pot", "lines"] :=
  defAt KX G c 18 rfl rfl rfl (fun _ _ _ _ _ _ us hl => match us, hl with | [_, _], _ => rfl) rfl rfl sc__law_bad_right look__law_bad_right
theorem at_law (KX : K.In h) (G : h.Ns mainGlobals mg) (c : SaysK kds ex K) : ∃ fa fd, DefAt K mg cfg d_law "law" fa fd N_law ["script"] :=
  defAt KX G c 19 rfl rfl rfl (fun _ _ _ _ _ _ us hl => match us, hl with | [_], _ => rfl) rfl rfl sc_law look_law
theorem exc_InvalidOrder (KX : K.In h) (G : h.Ns mainGlobals mg) (c : SaysK kds ex K) : XdOk prg w K mg base "InvalidOrder" "listing" (He.ga K "InvalidOrder") :=
  xd_ok (w := w) (base := base) (x := ⟨"InvalidOrder", "listing", "InvalidOrder.__init__", i_InvalidOrder⟩) KX G (exC c _ (List.mem_of_getElem? (i := 0) rfl)) (c.defs _ (List.mem_of_getElem? (i := 20) rfl)).2 (c.defs _ (List.mem_of_getElem? (i := 20) rfl)).1 rfl rfl rfl rfl (by decide +kernel) rfl (PySem.W.mg_none_of KX G (exB c _ (by simp)))
    (fun _ _ _ _ _ _ _ us hl => match us, hl with | [_, _], _ => rfl)
theorem exc_InvalidArrow (KX : K.In h) (G : h.Ns mainGlobals mg) (c : SaysK kds ex K) : XdOk prg w K mg base "InvalidArrow" "arrow" (He.ga K "InvalidArrow") :=
  xd_ok (w := w) (base := base) (x := ⟨"InvalidArrow", "arrow", "InvalidArrow.__init__", i_InvalidArrow⟩) KX G (exC c _ (List.mem_of_getElem? (i := 1) rfl)) (c.defs _ (List.mem_of_getElem? (i := 21) rfl)).2 (c.defs _ (List.mem_of_getElem? (i := 21) rfl)).1 rfl rfl rfl rfl (by decide +kernel) rfl (PySem.W.mg_none_of KX G (exB c _ (by simp)))
    (fun _ _ _ _ _ _ _ us hl => match us, hl with | [_, _], _ => rfl)
theorem tabOk (KX : K.In h) (G : h.Ns mainGlobals mg) (c : SaysK kds ex K) : TabOk prg w K mg base (thK K) cfg tab where
  hK := rfl
  defs := fun f d e => match f, e with
    | 0, e => by cases e; obtain ⟨fa, fd, D⟩ := at_is_order KX G c; exact ⟨_, fa, fd, _, _, rfl, D⟩
    | 1, e => by cases e; obtain ⟨fa, fd, D⟩ := at_check_orders KX G c; exact ⟨_, fa, fd, _, _, rfl, D⟩
    | 2, e => by cases e; obtain ⟨fa, fd, D⟩ := at_turned_between KX G c; exact ⟨_, fa, fd, _, _, rfl, D⟩
    | 3, e => by cases e; obtain ⟨fa, fd, D⟩ := at_turned_pairs KX G c; exact ⟨_, fa, fd, _, _, rfl, D⟩
    | 4, e => by cases e; obtain ⟨fa, fd, D⟩ := at_is_middle KX G c; exact ⟨_, fa, fd, _, _, rfl, D⟩
    | 5, e => by cases e; obtain ⟨fa, fd, D⟩ := at_lies_between KX G c; exact ⟨_, fa, fd, _, _, rfl, D⟩
    | 6, e => by cases e; obtain ⟨fa, fd, D⟩ := at_turning_at KX G c; exact ⟨_, fa, fd, _, _, rfl, D⟩
    | 7, e => by cases e; obtain ⟨fa, fd, D⟩ := at_exchange_way KX G c; exact ⟨_, fa, fd, _, _, rfl, D⟩
    | 8, e => by cases e; obtain ⟨fa, fd, D⟩ := at__law_pot KX G c; exact ⟨_, fa, fd, _, _, rfl, D⟩
    | 9, e => by cases e; obtain ⟨fa, fd, D⟩ := at__law_draw KX G c; exact ⟨_, fa, fd, _, _, rfl, D⟩
    | 10, e => by cases e; obtain ⟨fa, fd, D⟩ := at__law_lined KX G c; exact ⟨_, fa, fd, _, _, rfl, D⟩
    | 11, e => by cases e; obtain ⟨fa, fd, D⟩ := at__law_turned KX G c; exact ⟨_, fa, fd, _, _, rfl, D⟩
    | 12, e => by cases e; obtain ⟨fa, fd, D⟩ := at__law_middle KX G c; exact ⟨_, fa, fd, _, _, rfl, D⟩
    | 13, e => by cases e; obtain ⟨fa, fd, D⟩ := at__law_next KX G c; exact ⟨_, fa, fd, _, _, rfl, D⟩
    | 14, e => by cases e; obtain ⟨fa, fd, D⟩ := at__law_pairs_right KX G c; exact ⟨_, fa, fd, _, _, rfl, D⟩
    | 15, e => by cases e; obtain ⟨fa, fd, D⟩ := at__law_way_right KX G c; exact ⟨_, fa, fd, _, _, rfl, D⟩
    | 16, e => by cases e; obtain ⟨fa, fd, D⟩ := at__law_refused KX G c; exact ⟨_, fa, fd, _, _, rfl, D⟩
    | 17, e => by cases e; obtain ⟨fa, fd, D⟩ := at__law_bad KX G c; exact ⟨_, fa, fd, _, _, rfl, D⟩
    | 18, e => by cases e; obtain ⟨fa, fd, D⟩ := at__law_bad_right KX G c; exact ⟨_, fa, fd, _, _, rfl, D⟩
    | 19, e => by cases e; obtain ⟨fa, fd, D⟩ := at_law KX G c; exact ⟨_, fa, fd, _, _, rfl, D⟩
    | n + 20, e => nomatch (show (none : Option Df) = some d from e)
  only := fun f nm n e => by
    have : f < cfg.defs.length := (List.getElem?_eq_some_iff.mp e).1
    exact this
  lent := fun _ => rfl
  blt := fun n hn => PySem.W.mg_none_of KX G (exB c n (List.mem_append_left _ hn))
  exc := fun c' nm fld e => match c', e with
    | 0, e => by cases e; exact ⟨rfl, exc_InvalidOrder KX G c⟩
    | 1, e => by cases e; exact ⟨rfl, exc_InvalidArrow KX G c⟩
    | n + 2, e => nomatch (show (none : Option (Str × Str)) = some (nm, fld) from e)
  kit := fun i j p q e1 e2 => exD c i (List.getElem?_eq_some_iff.mp e1).1 j (List.getElem?_eq_some_iff.mp e2).1
end
end K28
end KL
end
section
set_option linter.all false
/-! KP: the evaluator run by simp: one part after the other. -/
namespace KL
/-- a mark: what it bears is looked at by no rewriting -/
structure Tg {σ : Type} (f : σ) : Type where
def tbnd {α β : Type} (r : Rr α) (f : α → Rho → Rr β) (_ : Tg f) : Rr β := r.bnd f
def tout {α : Type} (r : Rr α) (f : α → Rho → Outc) (_ : Tg f) : Outc := r.out f
def tseq (o : Outc) (f : Rho → Outc) (_ : Tg f) : Outc := o.seq f
theorem bnd_tag {α β : Type} {r : Rr α} {f : α → Rho → Rr β} : r.bnd f = tbnd r f ⟨⟩ := rfl
theorem out_tag {α : Type} {r : Rr α} {f : α → Rho → Outc} : r.out f = tout r f ⟨⟩ := rfl
theorem seq_tag {o : Outc} {f : Rho → Outc} : o.seq f = tseq o f ⟨⟩ := rfl
theorem tbnd_ok {α β : Type} {a : α} {ρ : Rho} {f : α → Rho → Rr β} {t : Tg f} : tbnd (Rr.ok a ρ) f t = f a ρ := rfl
theorem tbnd_exc {α β : Type} {p : PV} {ρ : Rho} {f : α → Rho → Rr β} {t : Tg f} : tbnd (Rr.exc p ρ : Rr α) f t = .exc p ρ := rfl
theorem tbnd_bad {α β : Type} {f : α → Rho → Rr β} {t : Tg f} : tbnd (Rr.bad : Rr α) f t = .bad := rfl
theorem tout_ok {α : Type} {a : α} {ρ : Rho} {f : α → Rho → Outc} {t : Tg f} : tout (Rr.ok a ρ) f t = f a ρ := rfl
theorem tout_exc {α : Type} {p : PV} {ρ : Rho} {f : α → Rho → Outc} {t : Tg f} : tout (Rr.exc p ρ : Rr α) f t = .ex p ρ := rfl
theorem tout_bad {α : Type} {f : α → Rho → Outc} {t : Tg f} : tout (Rr.bad : Rr α) f t = .bad := rfl
theorem tseq_nx {ρ : Rho} {f : Rho → Outc} {t : Tg f} : tseq (Outc.nx ρ) f t = f ρ := rfl
theorem tseq_rt {v : SV} {ρ : Rho} {f : Rho → Outc} {t : Tg f} : tseq (Outc.rt v ρ) f t = .rt v ρ := rfl
theorem tseq_ex {v : PV} {ρ : Rho} {f : Rho → Outc} {t : Tg f} : tseq (Outc.ex v ρ) f t = .ex v ρ := rfl
theorem tseq_bk {ρ : Rho} {f : Rho → Outc} {t : Tg f} : tseq (Outc.bk ρ) f t = .bk ρ := rfl
theorem tseq_ct {ρ : Rho} {f : Rho → Outc} {t : Tg f} : tseq (Outc.ct ρ) f t = .ct ρ := rfl
theorem tseq_bad {f : Rho → Outc} {t : Tg f} : tseq Outc.bad f t = .bad := rfl
theorem bnd_ok {α β : Type} {a : α} {ρ : Rho} {f : α → Rho → Rr β} : (Rr.ok a ρ).bnd f = f a ρ := rfl
theorem bnd_exc {α β : Type} {p : PV} {ρ : Rho} {f : α → Rho → Rr β} : (Rr.exc p ρ : Rr α).bnd f = .exc p ρ := rfl
theorem out_ok {α : Type} {a : α} {ρ : Rho} {f : α → Rho → Outc} : (Rr.ok a ρ).out f = f a ρ := rfl
theorem out_exc {α : Type} {p : PV} {ρ : Rho} {f : α → Rho → Outc} : (Rr.exc p ρ : Rr α).out f = .ex p ρ := rfl
theorem seq_nx {ρ : Rho} {f : Rho → Outc} : (Outc.nx ρ).seq f = f ρ := rfl
theorem seq_rt {v : SV} {ρ : Rho} {f : Rho → Outc} : (Outc.rt v ρ).seq f = .rt v ρ := rfl
theorem seq_ex {v : PV} {ρ : Rho} {f : Rho → Outc} : (Outc.ex v ρ).seq f = .ex v ρ := rfl
theorem seq_bk {ρ : Rho} {f : Rho → Outc} : (Outc.bk ρ).seq f = .bk ρ := rfl
theorem seq_ct {ρ : Rho} {f : Rho → Outc} : (Outc.ct ρ).seq f = .ct ρ := rfl
theorem bnd_bad {α β : Type} {f : α → Rho → Rr β} : (Rr.bad : Rr α).bnd f = .bad := rfl
theorem out_bad {α : Type} {f : α → Rho → Outc} : (Rr.bad : Rr α).out f = .bad := rfl
theorem seq_bad {f : Rho → Outc} : Outc.bad.seq f = .bad := rfl
theorem of_some {α : Type} {a : α} {ρ : Rho} : Rr.of (some a) ρ = .ok a ρ := rfl
theorem fin_val {r : Rr SV} : finM .val r = r.bnd fun v ρ => .ok (.imm v) ρ := rfl
theorem fin_opd {r : Rr SV} : finM .opd r = r.bnd fun v ρ => .ok (.imm v) ρ := rfl
theorem fin_tst {r : Rr SV} : finM .tst r = r.bnd fun v ρ => Rr.of ((truthP v.val).map fun b => .imm (.shr (.bl b))) ρ := rfl
theorem sv_imm {v : SV} : (Opd.imm v).sv = v := rfl
theorem val_shr {v : PV} : (SV.shr v).val = v := rfl
theorem val_own {v : PV} : (SV.own v).val = v := rfl
theorem val_own2 {v : PV} : (SV.own2 v).val = v := rfl
theorem val_frz2 {v : PV} : (SV.frz2 v).val = v := rfl
theorem tru_imm {b : Bool} : (Opd.imm (.shr (.bl b))).tru = b := rfl
theorem bak_nil (ρ0 : Rho) (o : Outc) : o.bak ρ0 [] = o := by cases o <;> rfl
theorem wipe_nil (ρ : Rho) : wipeR ρ [] = ρ := rfl
theorem back_nil (ρ0 ρ : Rho) : backR ρ0 ρ [] = ρ := rfl
/-- a run's end -/
def endD (m : Option Nat) : Outc → CR
  | .nx ρ => .ok (.shr .non) (backOf m ρ)
  | .rt v ρ => .ok v (backOf m ρ)
  | .ex x ρ => .exc x (backOf m ρ)
  | _ => .bad
theorem runD_eq {g : Gm} {d : Df} {vs : List SV} (h : (vs.length == d.pars && muOk d.lent 0 vs) = true) : runD g d vs = endD d.lent (execSs g (d.lent.toList ++ d.prot) (vs ++ List.replicate (d.slots - d.pars) .un) d.body (vs ++ List.replicate (d.slots - d.pars) .un)) := by
  unfold runD
  rw [if_pos h]
  dsimp only
  cases execSs g (d.lent.toList ++ d.prot) (vs ++ List.replicate (d.slots - d.pars) .un) d.body (vs ++ List.replicate (d.slots - d.pars) .un) <;> rfl
theorem end_bad {m : Option Nat} : endD m .bad = .bad := rfl
theorem end_nx {m : Option Nat} {ρ : Rho} : endD m (.nx ρ) = .ok (.shr .non) (backOf m ρ) := rfl
theorem end_rt {m : Option Nat} {v : SV} {ρ : Rho} : endD m (.rt v ρ) = .ok v (backOf m ρ) := rfl
theorem end_ex {m : Option Nat} {v : PV} {ρ : Rho} : endD m (.ex v ρ) = .exc v (backOf m ρ) := rfl
section
variable {tg : Tgt} {body : Rho → Outc} {x : PV} {xs : List PV} {ρ ρ1 ρ2 : Rho} {v : SV} {p : PV}
theorem for_nil : forL tg body [] ρ = .nx ρ := rfl
theorem for_nx (hb : bindTg tg x ρ = some ρ1) (h : body ρ1 = .nx ρ2) : forL tg body (x :: xs) ρ = forL tg body xs ρ2 := by simp only [forL, hb, h]
theorem for_ct (hb : bindTg tg x ρ = some ρ1) (h : body ρ1 = .ct ρ2) : forL tg body (x :: xs) ρ = forL tg body xs ρ2 := by simp only [forL, hb, h]
theorem for_bk (hb : bindTg tg x ρ = some ρ1) (h : body ρ1 = .bk ρ2) : forL tg body (x :: xs) ρ = .nx ρ2 := by simp only [forL, hb, h]
theorem for_rt (hb : bindTg tg x ρ = some ρ1) (h : body ρ1 = .rt v ρ2) : forL tg body (x :: xs) ρ = .rt v ρ2 := by simp only [forL, hb, h]
theorem for_ex (hb : bindTg tg x ρ = some ρ1) (h : body ρ1 = .ex p ρ2) : forL tg body (x :: xs) ρ = .ex p ρ2 := by simp only [forL, hb, h]
end
section
variable {tg : Tgt} {own : List Nat} {x : PV} {xs : List PV} {ρ ρ1 ρ2 ρ3 : Rho}
theorem lc_nil {body : Rho → Rr (Option SV)} : lcL tg own body [] ρ = .ok [] ρ := rfl
theorem lc_cons {body : Rho → Rr (Option SV)} {o : Option SV} {r : List SV} (hb : bindTg tg x ρ = some ρ1) (h : body ρ1 = .ok o ρ2) (h2 : lcL tg own body xs (wipeR ρ2 own) = .ok r ρ3) : lcL tg own body (x :: xs) ρ = .ok (o.toList ++ r) ρ3 := by
  simp only [lcL, hb, h, h2]
  cases o <;> rfl
theorem dc_nil {body : Rho → Rr (PV × PV)} {acc : List (PV × PV)} : dcL tg own body [] acc ρ = .ok acc ρ := rfl
theorem dc_cons {body : Rho → Rr (PV × PV)} {acc : List (PV × PV)} {k v : PV} (hb : bindTg tg x ρ = some ρ1) (h : body ρ1 = .ok (k, v) ρ2) (hk : keyPV k = true) : dcL tg own body (x :: xs) acc ρ = dcL tg own body xs (putPV k v acc) (wipeR ρ2 own) := by simp only [dcL, hb, h, hk, if_true]
theorem lc2_nil {own2 : List Nat} {inner : Rho → Rr (List PV)} {tg2 : Tgt} {body : Rho → Rr (Option SV)} : lcL2 tg own own2 inner tg2 body [] ρ = .ok [] ρ := rfl
theorem lc2_cons {own2 : List Nat} {inner : Rho → Rr (List PV)} {tg2 : Tgt} {body : Rho → Rr (Option SV)} {ys : List PV} {r1 r2 : List SV} {ρ4 : Rho} (hb : bindTg tg x ρ = some ρ1) (h : inner ρ1 = .ok ys ρ2) (h2 : lcL tg2 own2 body ys (wipeR ρ2 own2) = .ok r1 ρ3) (h3 : lcL2 tg own own2 inner tg2 body xs (wipeR ρ3 own) = .ok r2 ρ4) :
    lcL2 tg own own2 inner tg2 body (x :: xs) ρ = .ok (r1 ++ r2) ρ4 := by simp only [lcL2, hb, h, h2, h3]
end
section
variable {g : Gm} {m : Md} {ρ ρ1 ρ2 : Rho} {it : Wk} {tg : Tgt} {own : List Nat} {xs : List PV} {hd : List Nat} {t : Xpo} {e : Xp}
theorem ev_lc {vs : List SV} (hm : m ≠ .tst) (hit : evalIt g it ρ = .ok (xs, hd) ρ1) (hn : (notOwn ρ1 own && apart own hd && decide (xs.length ≤ big)) = true)
    (hl : lcL tg own (fun ρ => (evalTe g t ρ).bnd fun b ρ => if b then (evalE g .val e ρ).bnd fun v ρ => .ok (some v.sv) ρ else .ok none ρ) xs (wipeR ρ1 (hd ++ own)) = .ok vs ρ2) : evalE g m (.lcm false it tg own t e) ρ = .ok (.imm (.own (.lst (vs.map SV.val)))) (backR ρ1 ρ2 (hd ++ own)) := by
  cases m <;> first | exact absurd rfl hm | (simp only [evalE, hit, bnd_ok, hn, if_true, hl]; rfl)
theorem ev_lcd {vs : List SV} (hm : m ≠ .tst) (hit : evalIt g it ρ = .ok (xs, hd) ρ1) (hn : (notOwn ρ1 own && apart own hd && decide (xs.length ≤ big)) = true)
    (hl : lcL tg own (fun ρ => (evalTe g t ρ).bnd fun b ρ => if b then (evalE g .val e ρ).bnd fun v ρ => .ok (some v.sv) ρ else .ok none ρ) xs (wipeR ρ1 (hd ++ own)) = .ok vs ρ2) (ha : vs.all isOwnL = true) : evalE g m (.lcm true it tg own t e) ρ = .ok (.imm (.own2 (.lst (vs.map SV.val)))) (backR ρ1 ρ2 (hd ++ own)) := by
  cases m <;> first | exact absurd rfl hm | (simp only [evalE, hit, bnd_ok, hn, if_true, hl, packL, ha]; rfl)
theorem ev_lc2 {it2 : Wk} {tg2 : Tgt} {own2 : List Nat} {vs : List SV} (hm : m ≠ .tst) (hit : evalIt g it ρ = .ok (xs, hd) ρ1) (hn : (notOwn ρ1 own && apart own hd) = true)
    (hl : lcL2 tg own own2 (fun ρ => (evalIt g it2 ρ).bnd fun p ρ => if p.2.isEmpty then .ok p.1 ρ else .bad) tg2 (fun ρ => (evalTe g t ρ).bnd fun b ρ => if b then (evalE g .val e ρ).bnd fun v ρ => .ok (some v.sv) ρ else .ok none ρ) xs (wipeR ρ1 (hd ++ own)) = .ok vs ρ2) (hz : vs.length ≤ big) :
    evalE g m (.lc2 it tg it2 tg2 own own2 t e) ρ = .ok (.imm (.own (.lst (vs.map SV.val)))) (backR ρ1 ρ2 (hd ++ own)) := by
  cases m <;> first | exact absurd rfl hm | (simp only [evalE, hit, bnd_ok, hn, if_true, hl, hz]; rfl)
theorem ev_dc {k v : Xp} {kvs : List (PV × PV)} (hm : m ≠ .tst) (hit : evalIt g it ρ = .ok (xs, hd) ρ1) (hn : (notOwn ρ1 own && apart own hd && decide (xs.length ≤ big)) = true)
    (hl : dcL tg own (fun ρ => (evalE g .val k ρ).bnd fun a ρ => (evalE g .val v ρ).bnd fun b ρ => .ok (a.sv.val, b.sv.val) ρ) xs [] (wipeR ρ1 (hd ++ own)) = .ok kvs ρ2) : evalE g m (.dcm it tg own k v) ρ = .ok (.imm (.own (.dct kvs))) (backR ρ1 ρ2 (hd ++ own)) := by
  cases m <;> first | exact absurd rfl hm | (simp only [evalE, hit, bnd_ok, hn, if_true, hl]; rfl)
theorem ex_for {pr : List Nat} {ρ0 : Rho} {b : Sxs} (hit : evalIt g it ρ = .ok (xs, hd) ρ1) (ha : apart (tgSlots tg) (hd ++ pr) = true) : execS g pr ρ0 (.for_ it tg b) ρ = (forL tg (fun ρ' => execSs g (hd ++ pr) ρ0 b ρ') xs (wipeR ρ1 hd)).bak ρ1 hd := by
  simp only [execS, hit, out_ok, ha, if_true]
end
theorem ev_rng2 {g : Gm} {a b : Xp} {ρ : Rho} {i j : Int} (ha : evalE g .opd a ρ = .ok (.imm (.shr (.int i))) ρ) (hb : evalE g .opd b ρ = .ok (.imm (.shr (.int j))) ρ) (h1 : -4611686018427387904 ≤ i) (h2 : i < 4611686018427387904) (h3 : -4611686018427387904 ≤ j) (h4 : j < 4611686018427387904) : evalIt g (.rng2 a b) ρ = .ok (rngPV i (j - i).toNat, []) ρ := by
  have e : evalIt g (.rng2 a b) ρ = if -(2 ^ 62) ≤ i ∧ i < 2 ^ 62 ∧ -(2 ^ 62) ≤ j ∧ j < 2 ^ 62 then .ok (rngPV i (j - i).toNat, []) ρ else .bad := by
    simp only [evalIt, ha, hb, bnd_ok, Opd.get, SV.val]
  rw [e, if_pos (by omega)]
theorem ev_rng1 {g : Gm} {a : Xp} {ρ : Rho} {j : Int} (ha : evalE g .opd a ρ = .ok (.imm (.shr (.int j))) ρ) (h3 : -4611686018427387904 ≤ j) (h4 : j < 4611686018427387904) : evalIt g (.rng1 a) ρ = .ok (rngPV 0 j.toNat, []) ρ := by
  have e : evalIt g (.rng1 a) ρ = if -(2 ^ 62) ≤ j ∧ j < 2 ^ 62 then .ok (rngPV 0 j.toNat, []) ρ else .bad := by
    simp only [evalIt, ha, bnd_ok, Opd.get, SV.val]
  rw [e, if_pos (by omega)]
theorem one_more {g : Gm} {pr : List Nat} {ρ0 ρ : Rho} {s : Sx} {ss : Sxs} : execSs g pr ρ0 (.cons s ss) ρ = (execS g pr ρ0 s ρ).seq fun ρ => execSs g pr ρ0 ss ρ := by simp only [execSs]
theorem no_more {g : Gm} {pr : List Nat} {ρ0 ρ : Rho} : execSs g pr ρ0 .nil ρ = .nx ρ := by simp only [execSs]
end KL
end
section
set_option linter.all false
/-! K28M: the plain mathematics of k28: turned pairs, ways of exchanges, between. -/
namespace KL
namespace K28
abbrev ix (xs : List Int) (x : Int) : Nat := xs.idxOf x
def srt (xs : List Int) : List Int := xs.mergeSort (fun a b => decide (a ≤ b))
def tu (xs ys : List Int) : List (Int × Int) := (srt xs).flatMap fun x => ((srt xs).filter fun y => decide (ix xs x < ix xs y) && decide (ix ys y < ix ys x)).map fun y => (x, y)
theorem srt_perm (xs : List Int) : (srt xs).Perm xs := List.mergeSort_perm _ _
theorem mem_srt {x : Int} {xs : List Int} : x ∈ srt xs ↔ x ∈ xs := (srt_perm xs).mem_iff
theorem srt_sorted (xs : List Int) : (srt xs).Pairwise (· ≤ ·) := by
  have := List.pairwise_mergeSort (le := fun a b : Int => decide (a ≤ b)) (fun a b c h1 h2 => by simp only [decide_eq_true_eq] at *; omega) (fun a b => by simp only [Bool.or_eq_true, decide_eq_true_eq]; omega) xs
  exact this.imp (by simp)
theorem srt_strict {xs : List Int} (h : xs.Nodup) : (srt xs).Pairwise (· < ·) := by
  have h1 : (srt xs).Nodup := (srt_perm xs).nodup_iff.mpr h
  exact ((srt_sorted xs).and h1).imp fun {a b} h => by have := h.1; have := h.2; omega
theorem mem_tu {x y : Int} {xs ys : List Int} : (x, y) ∈ tu xs ys ↔ x ∈ xs ∧ y ∈ xs ∧ ix xs x < ix xs y ∧ ix ys y < ix ys x := by
  unfold tu
  simp only [List.mem_flatMap, List.mem_map, List.mem_filter, mem_srt, Bool.and_eq_true, decide_eq_true_eq, Prod.mk.injEq]
  constructor
  · rintro ⟨a, ha, b, ⟨hb, h1, h2⟩, rfl, rfl⟩; exact ⟨ha, hb, h1, h2⟩
  · rintro ⟨ha, hb, h1, h2⟩; exact ⟨x, ha, y, ⟨hb, h1, h2⟩, rfl, rfl⟩
def plt (a b : Int × Int) : Prop := a.1 < b.1 ∨ (a.1 = b.1 ∧ a.2 < b.2)
theorem tu_sorted {xs ys : List Int} (h : xs.Nodup) : (tu xs ys).Pairwise plt := by
  unfold tu
  rw [List.pairwise_flatMap]
  refine ⟨fun x _ => ?_, (srt_strict h).imp fun {a b} hab p hp q hq => ?_⟩
  · rw [List.pairwise_map]
    exact ((srt_strict h).filter _).imp fun {a b} hab => .inr ⟨rfl, hab⟩
  · simp only [List.mem_map] at hp hq
    obtain ⟨_, _, rfl⟩ := hp
    obtain ⟨_, _, rfl⟩ := hq
    exact .inl hab
theorem plt_ne {a b : Int × Int} (h : plt a b) : a ≠ b := by
  rintro rfl
  rcases h with h | ⟨_, h⟩ <;> omega
theorem tu_nodup {xs ys : List Int} (h : xs.Nodup) : (tu xs ys).Nodup := (tu_sorted h).imp fun h => plt_ne h
theorem ix_inj {xs : List Int} {x y : Int} (hx : x ∈ xs) (hy : y ∈ xs) (h : ix xs x = ix xs y) : x = y := by
  have h1 := List.getElem_idxOf (List.idxOf_lt_length_iff.mpr hx)
  have h2 := List.getElem_idxOf (List.idxOf_lt_length_iff.mpr hy)
  rw [← h1, ← h2]
  congr 1
theorem ix_not {xs : List Int} {x y : Int} (hx : x ∈ xs) (hy : y ∈ xs) (hne : x ≠ y) : ¬ ix xs y < ix xs x ↔ ix xs x < ix xs y := by
  have : ix xs x ≠ ix xs y := fun h => hne (ix_inj hx hy h)
  omega
/-- an order that no pair stands otherwise in is that order -/
theorem eq_of_ahead {xs ys : List Int} (p : xs.Perm ys) (hn : xs.Nodup) (h : ∀ x ∈ xs, ∀ y ∈ xs, ix xs x < ix xs y → ix ys x < ix ys y) : xs = ys := by
  have hn2 : ys.Nodup := p.nodup_iff.mp hn
  refine List.Perm.eq_of_pairwise (le := fun a b => ix ys a ≤ ix ys b) (fun a b ha hb h1 h2 => ix_inj (p.mem_iff.mp ha) hb (by omega)) ?_ ?_ p
  · rw [List.pairwise_iff_getElem]
    intro i j hi hj hij
    have e1 : ix xs xs[i] = i := hn.idxOf_getElem i hi
    have e2 : ix xs xs[j] = j := hn.idxOf_getElem j hj
    exact Nat.le_of_lt (h _ (List.getElem_mem hi) _ (List.getElem_mem hj) (by omega))
  · rw [List.pairwise_iff_getElem]
    intro i j hi hj hij
    have e1 : ix ys ys[i] = i := hn2.idxOf_getElem i hi
    have e2 : ix ys ys[j] = j := hn2.idxOf_getElem j hj
    omega
/-! ### the first exchange -/
theorem getD_at {xs : List Int} {i : Nat} (h : i < xs.length) : xs.getD i 0 = xs[i] := by simp [List.getD, h]
def nxt (xs ys : List Int) : Option Nat := (List.range (xs.length - 1)).find? fun at_ => decide (ix ys (xs.getD (at_ + 1) 0) < ix ys (xs.getD at_ 0))
def swp (xs : List Int) (at_ : Nat) : List Int := xs.take at_ ++ [xs.getD (at_ + 1) 0, xs.getD at_ 0] ++ xs.drop (at_ + 2)
def stp (ys xs : List Int) : List Int := match nxt xs ys with
  | some at_ => swp xs at_
  | none => xs
theorem nxt_some {xs ys : List Int} {at_ : Nat} (h : nxt xs ys = some at_) : at_ + 1 < xs.length ∧ ∃ l u v r, xs = l ++ u :: v :: r ∧ l.length = at_ ∧ ix ys v < ix ys u ∧ swp xs at_ = l ++ v :: u :: r := by
  unfold nxt at h
  rw [List.find?_range_eq_some] at h
  obtain ⟨h1, h2, _⟩ := h
  rw [List.mem_range] at h2
  have hlt : at_ + 1 < xs.length := by omega
  have hl0 : at_ < xs.length := by omega
  simp only [decide_eq_true_eq, getD_at hlt, getD_at hl0] at h1
  refine ⟨hlt, xs.take at_, xs[at_], xs[at_ + 1], xs.drop (at_ + 2), ?_, by rw [List.length_take]; omega, h1, ?_⟩
  · have e1 : xs.drop at_ = xs[at_] :: xs.drop (at_ + 1) := List.drop_eq_getElem_cons hl0
    have e2 : xs.drop (at_ + 1) = xs[at_ + 1] :: xs.drop (at_ + 2) := List.drop_eq_getElem_cons hlt
    rw [← e2, ← e1, List.take_append_drop]
  · unfold swp
    rw [getD_at hlt, getD_at hl0]
    simp
theorem nxt_none {xs ys : List Int} (h : nxt xs ys = none) : ∀ (i : Nat) (h1 : i + 1 < xs.length), ix ys xs[i] ≤ ix ys xs[i + 1] := fun i h1 => by
  unfold nxt at h
  rw [List.find?_eq_none] at h
  have := h i (by rw [List.mem_range]; omega)
  have hl0 : i < xs.length := by omega
  simp only [decide_eq_true_eq, getD_at h1, getD_at hl0] at this
  omega
theorem sorted_of {xs ys : List Int} (h : nxt xs ys = none) : ∀ (d i : Nat) (h1 : i + d < xs.length), ix ys (xs[i]'(by omega)) ≤ ix ys xs[i + d]
  | 0, i, h1 => Nat.le_refl _
  | d + 1, i, h1 => Nat.le_trans (sorted_of h d i (by omega)) (nxt_none h (i + d) (by omega))
theorem nxt_none_eq {xs ys : List Int} (p : xs.Perm ys) (hn : xs.Nodup) (h : nxt xs ys = none) : xs = ys := by
  refine eq_of_ahead p hn fun x hx y hy hlt => ?_
  have lx := List.idxOf_lt_length_iff.mpr hx
  have ly := List.idxOf_lt_length_iff.mpr hy
  have ex := List.getElem_idxOf lx
  have ey := List.getElem_idxOf ly
  have q := sorted_of h (ix xs y - ix xs x) (ix xs x) (by have h1 : ix xs x < ix xs y := hlt; have h2 : ix xs y < xs.length := ly; omega)
  have e : ix xs x + (ix xs y - ix xs x) = ix xs y := by omega
  have q2 : ix ys x ≤ ix ys y := by
    have q : ix ys (xs[xs.idxOf x]) ≤ ix ys (xs[ix xs x + (ix xs y - ix xs x)]'(by rw [e]; exact ly)) := q
    simp only [e] at q
    rw [ex] at q
    have ey' : xs[ix xs y] = y := ey
    rw [ey'] at q
    exact q
  have hne : x ≠ y := by rintro rfl; exact Nat.lt_irrefl _ hlt
  have := mt (ix_inj (p.mem_iff.mp hx) (p.mem_iff.mp hy)) hne
  omega
/-! ### one exchange -/
theorem ahead_swap {l r : List Int} {u v x y : Int} (hn : (l ++ u :: v :: r).Nodup) (hx : x ∈ l ++ u :: v :: r) (hy : y ∈ l ++ u :: v :: r) :
    ix (l ++ v :: u :: r) x < ix (l ++ v :: u :: r) y ↔ (x = v ∧ y = u) ∨ (ix (l ++ u :: v :: r) x < ix (l ++ u :: v :: r) y ∧ ¬ (x = u ∧ y = v)) := by
  have hn' := List.nodup_append.mp hn
  obtain ⟨hl, hr, hd⟩ := hn'
  have hul : u ∉ l := fun h => hd u h u (by simp) rfl
  have hvl : v ∉ l := fun h => hd v h v (by simp) rfl
  have huv : u ≠ v := fun h => by subst h; simp at hr
  have hur : u ∉ r := fun h => by simp [h] at hr
  have hvr : v ∉ r := fun h => by simp [h] at hr
  have bx : x ∈ l → l.idxOf x < l.length := fun h => List.idxOf_lt_length_iff.mpr h
  have by_ : y ∈ l → l.idxOf y < l.length := fun h => List.idxOf_lt_length_iff.mpr h
  unfold ix
  simp only [List.idxOf_append, List.idxOf_cons, Bool.cond_eq_ite, beq_iff_eq]
  by_cases h1 : x ∈ l
  · have b1 := bx h1
    have hxu : x ≠ u := fun e => hul (e ▸ h1)
    have hxv : x ≠ v := fun e => hvl (e ▸ h1)
    rw [if_pos h1]
    by_cases h2 : y ∈ l
    · rw [if_pos h2]
      have hyu : y ≠ u := fun e => hul (e ▸ h2)
      simp only [hxu, hxv, false_and, not_false_eq_true, and_true, false_or, if_pos h1, if_pos h2]
    · simp only [if_neg h2, hxu, hxv, false_and, not_false_eq_true, and_true, false_or, if_pos h1]
      constructor <;> intro _ <;> (repeat' split) <;> omega
  · by_cases h2 : y ∈ l
    · have b2 := by_ h2
      have hyu : y ≠ u := fun e => hul (e ▸ h2)
      have hyv : y ≠ v := fun e => hvl (e ▸ h2)
      simp only [if_neg h1, if_pos h2, hyu, hyv, and_false, not_false_eq_true, and_true, false_or]
      constructor <;> intro _ <;> (repeat' split at *) <;> omega
    · simp only [if_neg h1, if_neg h2]
      by_cases e1 : x = u
      · subst e1
        by_cases e2 : y = x
        · subst e2; simp [huv]
        · by_cases e3 : y = v
          · subst e3; simp [huv, Ne.symm huv]
          · simp [huv, Ne.symm huv, Ne.symm e2, Ne.symm e3, e2, e3]
      · by_cases e1' : x = v
        · subst e1'
          by_cases e2 : y = u
          · subst e2; simp [huv, Ne.symm huv]
          · by_cases e3 : y = x
            · subst e3; simp [huv, Ne.symm huv]
            · simp [huv, Ne.symm huv, Ne.symm e2, Ne.symm e3, e2, e3]
        · have e1s := Ne.symm e1
          have e1t := Ne.symm e1'
          by_cases e2 : y = u
          · subst e2; simp [huv, Ne.symm huv, e1, e1', e1s, e1t]
          · by_cases e3 : y = v
            · subst e3; simp [huv, Ne.symm huv, e1, e1', e1s, e1t]
            · simp [e1, e1', e1s, e1t, e2, e3, Ne.symm e2, Ne.symm e3]
theorem swap_perm {l r : List Int} {u v : Int} : (l ++ v :: u :: r).Perm (l ++ u :: v :: r) := List.Perm.append_left l (List.Perm.swap u v r)
theorem tu_swap {l r ys : List Int} {u v : Int} (hn : (l ++ u :: v :: r).Nodup) (h : ix ys v < ix ys u) : (tu (l ++ u :: v :: r) ys).Perm ((u, v) :: tu (l ++ v :: u :: r) ys) := by
  have hn2 : (l ++ v :: u :: r).Nodup := swap_perm.nodup_iff.mpr hn
  have hm : ∀ z, z ∈ l ++ v :: u :: r ↔ z ∈ l ++ u :: v :: r := fun z => swap_perm.mem_iff
  have hul : u ∉ l := fun h => (List.nodup_append.mp hn).2.2 u h u (by simp) rfl
  have hvl : v ∉ l := fun h => (List.nodup_append.mp hn).2.2 v h v (by simp) rfl
  have huv : u ≠ v := fun h => by subst h; omega
  have huv1 : ix (l ++ u :: v :: r) u < ix (l ++ u :: v :: r) v := by
    unfold ix
    simp [List.idxOf_append, List.idxOf_cons, hul, hvl, huv, beq_eq_false_iff_ne.mpr huv]
  have huv2 : ¬ ix (l ++ v :: u :: r) u < ix (l ++ v :: u :: r) v := by
    unfold ix
    simp [List.idxOf_append, List.idxOf_cons, hul, hvl, Ne.symm huv]
  rw [List.perm_ext_iff_of_nodup (tu_nodup hn) (List.nodup_cons.mpr ⟨fun z => huv2 (mem_tu.mp z).2.2.1, tu_nodup hn2⟩)]
  rintro ⟨x, y⟩
  rw [List.mem_cons, mem_tu, mem_tu, hm, hm]
  constructor
  · rintro ⟨hx, hy, h1, h2⟩
    by_cases e : x = u ∧ y = v
    · exact .inl (by rw [e.1, e.2])
    · exact .inr ⟨hx, hy, (ahead_swap hn hx hy).mpr (.inr ⟨h1, e⟩), h2⟩
  · rintro (e | ⟨hx, hy, h1, h2⟩)
    · cases e; exact ⟨by simp, by simp, huv1, h⟩
    · rcases (ahead_swap hn hx hy).mp h1 with ⟨rfl, rfl⟩ | ⟨h3, _⟩
      · omega
      · exact ⟨hx, hy, h3, h2⟩
theorem step_ok {xs ys : List Int} {at_ : Nat} (hn : xs.Nodup) (h : nxt xs ys = some at_) : (swp xs at_).Perm xs ∧ (tu xs ys).length = (tu (swp xs at_) ys).length + 1 := by
  obtain ⟨_, l, u, v, r, rfl, _, h1, h2⟩ := nxt_some h
  rw [h2]
  exact ⟨swap_perm, (tu_swap hn h1).length_eq⟩
/-- m exchanges from xs -/
def chn (ys : List Int) : Nat → List Int → List (List Int)
  | 0, xs => [xs]
  | m + 1, xs => xs :: chn ys m (stp ys xs)
theorem nxt_of_tu {xs ys : List Int} {m : Nat} (p : xs.Perm ys) (hn : xs.Nodup) (h : (tu xs ys).length = m + 1) : ∃ at_, nxt xs ys = some at_ := by
  cases e : nxt xs ys with
  | some at_ => exact ⟨at_, rfl⟩
  | none =>
    have := nxt_none_eq p hn e
    subst this
    have e0 : tu xs xs = [] := by
      rw [List.eq_nil_iff_forall_not_mem]
      rintro ⟨x, y⟩ hm
      have := mem_tu.mp hm
      omega
    rw [e0] at h; cases h
theorem nxt_of_tu0 {xs ys : List Int} (hn : xs.Nodup) (h : (tu xs ys).length = 0) : nxt xs ys = none := by
  cases e : nxt xs ys with
  | none => rfl
  | some at_ =>
    have := (step_ok hn e).2
    omega
/-! ### between -/
def mid (o f s : List Int) : Bool := (tu o f).all fun p => !decide (p ∈ tu o s)
theorem mid_iff {o f s : List Int} (pf : o.Perm f) (ps : o.Perm s) : mid o f s = true ↔ ∀ x ∈ o, ∀ y ∈ o, ix o x < ix o y → ix f x < ix f y ∨ ix s x < ix s y := by
  unfold mid
  rw [List.all_eq_true]
  constructor
  · intro h x hx y hy hlt
    have hne : x ≠ y := by rintro rfl; exact Nat.lt_irrefl _ hlt
    by_cases h1 : ix f y < ix f x
    · by_cases h2 : ix s y < ix s x
      · have := h (x, y) (mem_tu.mpr ⟨hx, hy, hlt, h1⟩)
        simp only [Bool.not_eq_true', decide_eq_false_iff_not] at this
        exact absurd (mem_tu.mpr ⟨hx, hy, hlt, h2⟩) this
      · exact .inr ((ix_not (ps.mem_iff.mp hx) (ps.mem_iff.mp hy) hne).mp h2)
    · exact .inl ((ix_not (pf.mem_iff.mp hx) (pf.mem_iff.mp hy) hne).mp h1)
  · rintro h ⟨x, y⟩ hp
    simp only [Bool.not_eq_true', decide_eq_false_iff_not]
    intro hq
    obtain ⟨hx, hy, h1, h2⟩ := mem_tu.mp hp
    obtain ⟨_, _, _, h3⟩ := mem_tu.mp hq
    rcases h x hx y hy h1 with h | h <;> omega
theorem mid_first {f s : List Int} (p : f.Perm s) : mid f f s = true := (mid_iff (List.Perm.refl f) p).mpr fun x _ y _ h => .inl h
theorem mid_step {o f s : List Int} {at_ : Nat} (pf : o.Perm f) (ps : o.Perm s) (hn : o.Nodup) (h : nxt o s = some at_) (hm : mid o f s = true) : mid (swp o at_) f s = true := by
  obtain ⟨_, l, u, v, r, rfl, _, h1, h2⟩ := nxt_some h
  rw [h2]
  have q : (l ++ v :: u :: r).Perm (l ++ u :: v :: r) := swap_perm
  refine (mid_iff (q.trans pf) (q.trans ps)).mpr fun x hx y hy hlt => ?_
  have hx := q.mem_iff.mp hx
  have hy := q.mem_iff.mp hy
  rcases (ahead_swap hn hx hy).mp hlt with ⟨rfl, rfl⟩ | ⟨h3, _⟩
  · exact .inr h1
  · exact (mid_iff pf ps).mp hm x hx y hy h3
theorem ix_rev {xs : List Int} (hn : xs.Nodup) {x : Int} (hx : x ∈ xs) : ix xs.reverse x + ix xs x + 1 = xs.length := by
  have lx := List.idxOf_lt_length_iff.mpr hx
  have ex := List.getElem_idxOf lx
  have hr : xs.reverse.Nodup := (List.reverse_perm xs).nodup_iff.mpr hn
  have hlen : xs.length - 1 - xs.idxOf x < xs.reverse.length := by rw [List.length_reverse]; omega
  have e : xs.reverse[xs.length - 1 - xs.idxOf x] = x := by
    rw [List.getElem_reverse]
    have : xs.length - 1 - (xs.length - 1 - xs.idxOf x) = xs.idxOf x := by omega
    simp only [this]
    exact ex
  have e2 := hr.idxOf_getElem (xs.length - 1 - xs.idxOf x) hlen
  rw [e] at e2
  show xs.reverse.idxOf x + xs.idxOf x + 1 = xs.length
  omega
theorem mid_rev {o f : List Int} (p : o.Perm f) (hn : f.Nodup) : mid o f f.reverse = true := by
  refine (mid_iff p (p.trans (List.reverse_perm f).symm)).mpr fun x hx y hy h => ?_
  have hx := p.mem_iff.mp hx
  have hy' := p.mem_iff.mp hy
  have hne : x ≠ y := by rintro rfl; exact Nat.lt_irrefl _ h
  have := ix_rev hn hx
  have := ix_rev hn hy'
  have := mt (ix_inj hx hy') hne
  omega
theorem mid_self {o f : List Int} (p : o.Perm f) (hn : o.Nodup) : mid o f f = decide (o = f) := by
  by_cases e : o = f
  · subst e; rw [mid_first (List.Perm.refl o)]; simp
  · rw [decide_eq_false e]
    cases h : mid o f f with
    | false => rfl
    | true =>
      refine absurd (eq_of_ahead p hn fun x hx y hy hlt => ?_) e
      rcases (mid_iff p p).mp h x hx y hy hlt with h | h <;> exact h
/-! ### the other way of counting -/
def tb (xs ys : List Int) : List (Int × Int) := xs.zipIdx.flatMap fun p => ((xs.take p.2).filter fun x => decide (ix ys p.1 < ix ys x)).map fun x => (x, p.1)
theorem mem_tb {xs ys : List Int} (hn : xs.Nodup) {x y : Int} : (x, y) ∈ tb xs ys ↔ (x, y) ∈ tu xs ys := by
  rw [mem_tu]
  unfold tb
  simp only [List.mem_flatMap, List.mem_map, List.mem_filter, decide_eq_true_eq, Prod.mk.injEq, Prod.exists, List.mem_zipIdx_iff_getElem?]
  constructor
  · rintro ⟨b, i, hi, a, ⟨ha, h1⟩, rfl, rfl⟩
    obtain ⟨hi', e⟩ := List.getElem?_eq_some_iff.mp hi
    obtain ⟨j, hj, e2⟩ := List.mem_take_iff_getElem.mp ha
    have hj' : j < xs.length := by omega
    have e3 := hn.idxOf_getElem j hj'
    have e4 := hn.idxOf_getElem i hi'
    rw [e] at e4
    rw [e2] at e3
    refine ⟨e2 ▸ List.getElem_mem hj', e ▸ List.getElem_mem hi', ?_, h1⟩
    show xs.idxOf a < xs.idxOf b
    omega
  · rintro ⟨hx, hy, h1, h2⟩
    have lx := List.idxOf_lt_length_iff.mpr hx
    have ly := List.idxOf_lt_length_iff.mpr hy
    exact ⟨y, ix xs y, List.getElem?_eq_some_iff.mpr ⟨ly, List.getElem_idxOf ly⟩, x, ⟨List.mem_take_iff_getElem.mpr ⟨ix xs x, by show xs.idxOf x < min (xs.idxOf y) xs.length; have : xs.idxOf x < xs.idxOf y := h1; omega, List.getElem_idxOf lx⟩, h2⟩, rfl, rfl⟩
theorem tb_nodup {xs ys : List Int} (hn : xs.Nodup) : (tb xs ys).Nodup := by
  unfold tb
  show List.Pairwise _ _
  rw [List.pairwise_flatMap]
  refine ⟨fun p _ => ?_, ?_⟩
  · rw [List.pairwise_map]
    exact ((hn.sublist (List.take_sublist _ _)).filter _).imp fun {a b} hab e => hab (Prod.mk.inj e).1
  · have hz : (xs.zipIdx.map Prod.fst) = xs := by simp
    have : xs.zipIdx.Pairwise fun p q => p.1 ≠ q.1 := by
      rw [← List.pairwise_map (f := Prod.fst) (R := fun a b : Int => a ≠ b), hz]
      exact hn
    refine this.imp fun {p q} hpq a ha b hb e => ?_
    simp only [List.mem_map] at ha hb
    obtain ⟨_, _, rfl⟩ := ha
    obtain ⟨_, _, rfl⟩ := hb
    exact hpq (Prod.mk.inj e).2
def ple (a b : Int × Int) : Bool := decide (a.1 < b.1) || (decide (a.1 = b.1) && decide (a.2 ≤ b.2))
theorem tb_sort {xs ys : List Int} (hn : xs.Nodup) : (tb xs ys).mergeSort ple = tu xs ys := by
  have p1 : ((tb xs ys).mergeSort ple).Perm (tb xs ys) := List.mergeSort_perm _ _
  have p2 : (tb xs ys).Perm (tu xs ys) := (List.perm_ext_iff_of_nodup (tb_nodup hn) (tu_nodup hn)).mpr fun ⟨x, y⟩ => mem_tb hn
  refine List.Perm.eq_of_pairwise (le := fun a b => ple a b = true) ?_ (List.pairwise_mergeSort ?_ ?_ _) ((tu_sorted hn).imp ?_) (p1.trans p2)
  · rintro ⟨a, b⟩ ⟨c, d⟩ _ _ h1 h2
    simp only [ple, Bool.or_eq_true, Bool.and_eq_true, decide_eq_true_eq] at h1 h2
    have : a = c := by omega
    have : b = d := by omega
    simp [*]
  · rintro ⟨a, b⟩ ⟨c, d⟩ ⟨e, f⟩ h1 h2
    simp only [ple, Bool.or_eq_true, Bool.and_eq_true, decide_eq_true_eq] at *
    omega
  · rintro ⟨a, b⟩ ⟨c, d⟩
    simp only [ple, Bool.or_eq_true, Bool.and_eq_true, decide_eq_true_eq]
    omega
  · rintro ⟨a, b⟩ ⟨c, d⟩ h
    simp only [plt] at h
    simp only [ple, Bool.or_eq_true, Bool.and_eq_true, decide_eq_true_eq]
    omega
end K28
end KL
end
section
set_option linter.all false
set_option maxRecDepth 100000
/-! K28P: what the defs of k28 compute. -/
namespace KL
namespace K28
open PySem
abbrev il (xs : List Int) : List PV := xs.map .int
abbrev pl (xs : List (Int × Int)) : List PV := xs.map fun p => .tup [.int p.1, .int p.2]
def sq (t : Bool) (xs : List Int) : PV := if t then .tup (il xs) else .lst (il xs)
def lt : Nat → Option Nat | 9 => some 0 | 10 => some 0 | 17 => some 0 | 18 => some 0 | _ => none
theorem lnt (k f : Nat) : (gN tab k).lent f = lt f := by
  have h : (gN tab k).lent f = (match tab[f]? with | some d => d.lent | none => none) := by cases k <;> rfl
  rw [h]
  match f with
  | 0 | 1 | 2 | 3 | 4 | 5 | 6 | 7 | 8 | 9 | 10 | 11 | 12 | 13 | 14 | 15 | 16 | 17 | 18 | 19 => rfl
  | n + 20 => rfl
theorem cl (k f : Nat) (vs : List SV) : (gN tab (k + 1)).call f vs = (match tab[f]? with | some d => runD (gN tab k) d vs | none => .bad) := rfl
/-! ### operations on what is here -/
theorem allInt_il (xs : List Int) : allInt (il xs) = some xs := by
  induction xs with
  | nil => rfl
  | cons x xs ih => show (allInt (il xs)).map (x :: ·) = _; rw [ih]; rfl
theorem allPair_pl (xs : List (Int × Int)) : allPair (pl xs) = some xs := by
  induction xs with
  | nil => rfl
  | cons x xs ih => show (allPair (pl xs)).map ((x.1, x.2) :: ·) = _; rw [ih]; rfl
theorem dOks_il (n : Nat) (xs : List Int) : dOks n (il xs) = true := by
  induction xs with
  | nil => simp [dOks]
  | cons x xs ih => simp only [il, List.map_cons, dOks, dOk, Bool.true_and]; exact ih
theorem dOks_pl (n : Nat) (xs : List (Int × Int)) : dOks (n + 1) (pl xs) = true := by
  induction xs with
  | nil => simp [dOks]
  | cons x xs ih => simp only [pl, List.map_cons, dOks, dOk, Bool.true_and]; exact ih
theorem cmpbs_il (xs ys : List Int) : cmpbs (il xs) (il ys) = true := by
  induction xs generalizing ys with
  | nil => simp [cmpbs]
  | cons x xs ih =>
    cases ys with
    | nil => simp [cmpbs]
    | cons y ys => simp only [il, List.map_cons, cmpbs, cmpb, Bool.true_and]; exact ih ys
theorem cmpbs_pl (xs ys : List (Int × Int)) : cmpbs (pl xs) (pl ys) = true := by
  induction xs generalizing ys with
  | nil => simp [cmpbs]
  | cons x xs ih =>
    cases ys with
    | nil => simp [cmpbs]
    | cons y ys => simp only [pl, List.map_cons, cmpbs, cmpb, Bool.true_and]; exact ih ys
theorem il_inj {xs ys : List Int} : il xs = il ys ↔ xs = ys := by
  constructor
  · intro h
    have := congrArg allInt h
    rw [allInt_il, allInt_il] at this
    exact Option.some.inj this
  · rintro rfl; rfl
theorem pl_inj {xs ys : List (Int × Int)} : pl xs = pl ys ↔ xs = ys := by
  constructor
  · intro h
    have := congrArg allPair h
    rw [allPair_pl, allPair_pl] at this
    exact Option.some.inj this
  · rintro rfl; rfl
theorem eq_il (xs ys : List Int) : cmpPV .eq (.lst (il xs)) (.lst (il ys)) = some (decide (xs = ys)) := by
  show eqPV _ _ = _
  unfold eqPV
  simp only [dOk, dOks_il, cmpb, cmpbs_il, Bool.and_self, if_true, PV.lst.injEq, il_inj]
theorem ne_il (xs ys : List Int) : cmpPV .ne (.lst (il xs)) (.lst (il ys)) = some (!decide (xs = ys)) := by
  show (eqPV _ _).map _ = _
  unfold eqPV
  simp only [dOk, dOks_il, cmpb, cmpbs_il, Bool.and_self, if_true, PV.lst.injEq, il_inj, Option.map_some]
theorem ne_pl (xs ys : List (Int × Int)) : cmpPV .ne (.lst (pl xs)) (.lst (pl ys)) = some (!decide (xs = ys)) := by
  show (eqPV _ _).map _ = _
  unfold eqPV
  simp only [dOk, dOks_pl, cmpb, cmpbs_pl, Bool.and_self, if_true, PV.lst.injEq, pl_inj, Option.map_some]
theorem eq_int (i j : Int) : cmpPV .eq (.int i) (.int j) = some (decide (i = j)) := by
  show eqPV _ _ = _
  unfold eqPV
  simp [dOk, cmpb]
theorem ne_int (i j : Int) : cmpPV .ne (.int i) (.int j) = some (!decide (i = j)) := by
  have e : cmpPV .ne (.int i) (.int j) = (eqPV (.int i) (.int j)).map (!·) := by simp [cmpPV]
  rw [e]
  simp [eqPV, dOk, cmpb]
theorem ne_bl (i j : Bool) : cmpPV .ne (.bl i) (.bl j) = some (!decide (i = j)) := by
  have e : cmpPV .ne (.bl i) (.bl j) = (eqPV (.bl i) (.bl j)).map (!·) := by simp [cmpPV]
  rw [e]
  simp [eqPV, dOk, cmpb]
theorem lt_int (i j : Int) : cmpPV .lt (.int i) (.int j) = some (decide (i < j)) := rfl
theorem gt_int (i j : Int) : cmpPV .gt (.int i) (.int j) = some (decide (j < i)) := rfl
theorem pl_mem {p : Int × Int} {ys : List (Int × Int)} : PV.tup [.int p.1, .int p.2] ∈ pl ys ↔ p ∈ ys := by
  simp only [pl, List.mem_map, PV.tup.injEq, List.cons.injEq, PV.int.injEq, and_true]
  constructor
  · rintro ⟨a, ha, h1, h2⟩
    have : a = p := Prod.ext h1 h2
    exact this ▸ ha
  · intro h; exact ⟨p, h, rfl, rfl⟩
theorem cmp_pl (p : Int × Int) (ys : List (Int × Int)) : ((pl ys).all fun y => cmpb y (.tup [.int p.1, .int p.2])) = true := by
  simp [List.all_eq_true, pl, cmpb, cmpbs]
theorem in_pl (p : Int × Int) (ys : List (Int × Int)) : cmpPV .isin (.tup [.int p.1, .int p.2]) (.lst (pl ys)) = some (decide (p ∈ ys)) := by
  show memPV _ _ = _
  unfold memPV
  rw [cmp_pl, dOks_pl]
  simp only [dOk, dOks, Bool.and_self, if_true, pl_mem]
theorem notin_pl (p : Int × Int) (ys : List (Int × Int)) : cmpPV .notin (.tup [.int p.1, .int p.2]) (.lst (pl ys)) = some (!decide (p ∈ ys)) := by
  show (memPV _ _).map _ = _
  unfold memPV
  rw [cmp_pl, dOks_pl]
  simp only [dOk, dOks, Bool.and_self, if_true, pl_mem, Option.map_some]
theorem bop_add (i j : Int) : bopPV .add (.int i) (.int j) = some (.shr (.int (i + j))) := rfl
theorem bop_sub (i j : Int) : bopPV .sub (.int i) (.int j) = some (.shr (.int (i - j))) := rfl
theorem bop_mod {i j : Int} (h : 0 < j) : bopPV .mod (.int i) (.int j) = some (.shr (.int (i % j))) := if_pos h
theorem bop_fdiv {i j : Int} (h : 0 < j) (h2 : j < 1073741824) : bopPV .fdiv (.int i) (.int j) = some (.shr (.int (i / j))) := if_pos ⟨h, h2⟩
theorem bop_mul {i j : Int} (h : -18446744073709551616 < i) (h2 : i < 18446744073709551616) : bopPV .mul (.int i) (.int j) = some (.shr (.int (i * j))) := if_pos (.inl ⟨by omega, by omega⟩)
theorem bop_cat {xs ys : List PV} (h : xs.length + ys.length ≤ 16777216) : bopPV .add (.lst xs) (.lst ys) = some (.own (.lst (xs ++ ys))) := if_pos h
theorem sort_il (xs : List Int) : sortPV (il xs) = some (il (srt xs)) := by
  unfold sortPV; rw [allInt_il]; rfl
theorem sort_pl (x : Int × Int) (xs : List (Int × Int)) : sortPV (pl (x :: xs)) = some (pl ((x :: xs).mergeSort pairLe)) := by
  have e : allInt (pl (x :: xs)) = none := rfl
  unfold sortPV; rw [e, allPair_pl]
theorem sort_pl' (xs : List (Int × Int)) : sortPV (pl xs) = some (pl (xs.mergeSort ple)) := by
  cases xs with
  | nil => simp [sortPV, allInt]
  | cons x xs => exact sort_pl x xs
theorem b_sorted (xs : List Int) (t : Bool) : bltPV .sorted [sq t xs] = some (.own (.lst (il (srt xs)))) := by
  cases t <;> (show (sortPV (il xs)).map _ = _; rw [sort_il]; rfl)
theorem b_sortedl (xs : List Int) : bltPV .sorted [.lst (il xs)] = some (.own (.lst (il (srt xs)))) := b_sorted xs false
theorem b_sortedp (xs : List (Int × Int)) : bltPV .sorted [.lst (pl xs)] = some (.own (.lst (pl (xs.mergeSort ple)))) := by
  show (sortPV (pl xs)).map _ = _; rw [sort_pl']; rfl
theorem b_len (xs : List Int) (t : Bool) : bltPV .len [sq t xs] = some (.shr (.int xs.length)) := by
  cases t <;> (show some (SV.shr (.int (il xs).length)) = _; simp)
theorem b_lenl (xs : List PV) : bltPV .len [.lst xs] = some (.shr (.int xs.length)) := rfl
theorem b_lens (xs : List Int) : bltPV .len [.scr xs] = some (.shr (.int xs.length)) := rfl
theorem b_list (xs : List Int) (t : Bool) : bltPV .list [sq t xs] = some (.own (.lst (il xs))) := by cases t <;> rfl
theorem b_listl (xs : List PV) : bltPV .list [.lst xs] = some (.own (.lst xs)) := rfl
theorem b_tuple (xs : List Int) (t : Bool) : bltPV .tuple [sq t xs] = some (.shr (.tup (il xs))) := by cases t <;> rfl
theorem b_tuplel (xs : List PV) : bltPV .tuple [.lst xs] = some (.shr (.tup xs)) := rfl
theorem b_abs (i : Int) : bltPV .abs [.int i] = some (.shr (.int (if i < 0 then -i else i))) := rfl
theorem b_int (i : Int) : bltPV .int [.int i] = some (.shr (.int i)) := rfl
theorem b_rev (xs : List PV) : bltPV .listrev [.lst xs] = some (.own (.lst xs.reverse)) := rfl
theorem b_isl (xs : List PV) : bltPV (.isi .list) [.lst xs] = some (.shr (.bl true)) := rfl
theorem b_isb (b : Bool) : bltPV (.isi .bool) [.bl b] = some (.shr (.bl true)) := rfl
theorem b_ist (xs : List PV) : bltPV (.isi .tuple) [.tup xs] = some (.shr (.bl true)) := rfl
def ranged (n : Int) : List Int := (List.range n.toNat).map fun (k : Nat) => 1 + (k : Int)
theorem rng_one (n : Int) : rngPV 1 (n + 1 - 1).toNat = il (ranged n) := by
  unfold rngPV ranged il
  rw [List.map_map, show n + 1 - 1 = n by omega]; rfl
theorem b_rng {n : Int} (h0 : 0 ≤ n) (h1 : n ≤ 1000) : bltPV .listrng2 [.int 1, .int (n + 1)] = some (.own (.lst (il (ranged n)))) := by
  rw [← rng_one]
  exact if_pos (by unfold big; omega)
theorem all_bl (bs : List Bool) : bltPV .all [.lst (bs.map .bl)] = some (.shr (.bl (bs.all id))) := by
  have : allBl (bs.map .bl) = some bs := by
    induction bs with
    | nil => rfl
    | cons b bs ih => show (allBl (bs.map .bl)).map (b :: ·) = _; rw [ih]; rfl
  show (allBl (bs.map .bl)).map _ = _
  rw [this]; rfl
theorem any_bl (bs : List Bool) : bltPV .any [.lst (bs.map .bl)] = some (.shr (.bl (bs.any id))) := by
  have : allBl (bs.map .bl) = some bs := by
    induction bs with
    | nil => rfl
    | cons b bs ih => show (allBl (bs.map .bl)).map (b :: ·) = _; rw [ih]; rfl
  show (allBl (bs.map .bl)).map _ = _
  rw [this]; rfl
/-! ### is_order, check_orders -/
def isOrd (n : Int) (xs : List Int) : Bool := decide (srt xs = ranged n)
theorem c0 (k : Nat) (n : Int) (t : Bool) (xs : List Int) (h0 : 0 ≤ n) (h1 : n ≤ 1000) : (gN tab (k + 1)).call 0 [.shr (.int n), .shr (sq t xs)] = .ok (.shr (.bl (isOrd n xs))) .un := by
  rw [cl]
  show runD (gN tab k) d_is_order _ = _
  rw [runD_eq rfl]
  simp [execSs, execS, evalE, evalEs, evalOs, evalAs, evalIt, evalTe, evalOe, evalAnd, evalOr, getAll, argsOf, refOf, setBk, askV, peekV, readV, ↓bnd_tag, ↓out_tag, ↓seq_tag, tbnd_ok, tbnd_exc, tbnd_bad, tout_bad, tseq_bad, end_bad, tout_ok, tout_exc, tseq_nx, tseq_rt, tseq_ex, tseq_bk, tseq_ct, of_some, fin_val, fin_opd, fin_tst, end_nx, end_rt, end_ex, Opd.get, sv_imm, tru_imm, val_shr, val_own, val_own2, val_frz2, scalar, backOf, setSlot, lnt, lt, packL, isOwnL, d_is_order, b_sorted, b_rng h0 h1, bop_add, eq_il, isOrd]
def chk (n : Int) (ls : List (Bool × List Int)) : CR := match ls.find? fun p => !isOrd n p.2 with
  | none => .ok (.shr .non) .un
  | some p => .exc (.obj 0 [.tup (il p.2)]) .un
abbrev sqs (ls : List (Bool × List Int)) : List PV := ls.map fun p => sq p.1 p.2
theorem c1 (k : Nat) (n : Int) (ls : List (Bool × List Int)) (h0 : 0 ≤ n) (h1 : n ≤ 1000) : (gN tab (k + 2)).call 1 [.shr (.int n), .shr (.lst (sqs ls))] = chk n ls := by
  rw [cl]
  show runD (gN tab (k + 1)) d_check_orders _ = _
  rw [runD_eq rfl]
  have key : ∀ L s, endD none ((forL (.one 2) (fun ρ' => execSs (gN tab (k + 1)) [] [.shr (.int n), L, .un] q_check_orders_1 ρ') (sqs ls) [.shr (.int n), L, s]).seq fun ρ => .nx ρ) = chk n ls := by
    intro L
    induction ls with
    | nil => intro s; rfl
    | cons p ls ih =>
      intro s
      obtain ⟨t, xs⟩ := p
      have turn : execSs (gN tab (k + 1)) [] [.shr (.int n), L, .un] q_check_orders_1 [.shr (.int n), L, .shr (sq t xs)] = if isOrd n xs then .nx [.shr (.int n), L, .shr (sq t xs)] else .ex (.obj 0 [.tup (il xs)]) [.shr (.int n), L, .shr (sq t xs)] := by
        simp [execSs, execS, evalE, evalEs, evalOs, evalAs, evalIt, evalTe, evalOe, evalAnd, evalOr, getAll, argsOf, refOf, setBk, askV, peekV, readV, ↓bnd_tag, ↓out_tag, ↓seq_tag, tbnd_ok, tbnd_exc, tbnd_bad, tout_bad, tseq_bad, end_bad, tout_ok, tout_exc, tseq_nx, tseq_rt, tseq_ex, tseq_bk, tseq_ct, of_some, fin_val, fin_opd, fin_tst, end_nx, end_rt, end_ex, Opd.get, sv_imm, tru_imm, val_shr, val_own, val_own2, val_frz2, scalar, backOf, setSlot, lnt, lt, packL, isOwnL, c0 k n t xs h0 h1, b_tuple, truthP, q_check_orders_1]
        cases isOrd n xs <;> simp [execSs, execS, evalE, evalEs, evalOs, evalAs, evalIt, evalTe, evalOe, evalAnd, evalOr, getAll, argsOf, refOf, setBk, askV, peekV, readV, ↓bnd_tag, ↓out_tag, ↓seq_tag, tbnd_ok, tbnd_exc, tbnd_bad, tout_bad, tseq_bad, end_bad, tout_ok, tout_exc, tseq_nx, tseq_rt, tseq_ex, tseq_bk, tseq_ct, of_some, fin_val, fin_opd, fin_tst, end_nx, end_rt, end_ex, Opd.get, sv_imm, tru_imm, val_shr, val_own, val_own2, val_frz2, scalar, backOf, setSlot, lnt, lt, packL, isOwnL]
      cases hx : isOrd n xs with
      | true =>
        rw [hx] at turn
        have e : chk n ((t, xs) :: ls) = chk n ls := by unfold chk; simp [List.find?_cons, hx]
        rw [e]
        exact (congrArg (fun o : Outc => endD none (o.seq fun ρ => .nx ρ)) (for_nx rfl turn)).trans (ih (.shr (sq t xs)))
      | false =>
        rw [hx] at turn
        exact (congrArg (fun o : Outc => endD none (o.seq fun ρ => .nx ρ)) (for_ex rfl turn)).trans (by simp [execSs, execS, evalE, evalEs, evalOs, evalAs, evalIt, evalTe, evalOe, evalAnd, evalOr, getAll, argsOf, refOf, setBk, askV, peekV, readV, ↓bnd_tag, ↓out_tag, ↓seq_tag, tbnd_ok, tbnd_exc, tbnd_bad, tout_bad, tseq_bad, end_bad, tout_ok, tout_exc, tseq_nx, tseq_rt, tseq_ex, tseq_bk, tseq_ct, of_some, fin_val, fin_opd, fin_tst, end_nx, end_rt, end_ex, Opd.get, sv_imm, tru_imm, val_shr, val_own, val_own2, val_frz2, scalar, backOf, setSlot, lnt, lt, packL, isOwnL, chk, hx])
  have e : ∀ ρ0, execS (gN tab (k + 1)) [] ρ0 q_check_orders_2 [.shr (.int n), .shr (.lst (sqs ls)), .un] = forL (.one 2) (fun ρ' => execSs (gN tab (k + 1)) [] ρ0 q_check_orders_1 ρ') (sqs ls) [.shr (.int n), .shr (.lst (sqs ls)), .un] := fun ρ0 => by
    have it : evalIt (gN tab (k + 1)) (.seq (.var 1)) [.shr (.int n), .shr (.lst (sqs ls)), .un] = .ok (sqs ls, []) [.shr (.int n), .shr (.lst (sqs ls)), .un] := by simp [execSs, execS, evalE, evalEs, evalOs, evalAs, evalIt, evalTe, evalOe, evalAnd, evalOr, getAll, argsOf, refOf, setBk, askV, peekV, readV, ↓bnd_tag, ↓out_tag, ↓seq_tag, tbnd_ok, tbnd_exc, tbnd_bad, tout_bad, tseq_bad, end_bad, tout_ok, tout_exc, tseq_nx, tseq_rt, tseq_ex, tseq_bk, tseq_ct, of_some, fin_val, fin_opd, fin_tst, end_nx, end_rt, end_ex, Opd.get, sv_imm, tru_imm, val_shr, val_own, val_own2, val_frz2, scalar, backOf, setSlot, lnt, lt, packL, isOwnL, hidO]
    exact (ex_for it rfl).trans (bak_nil _ _)
  show endD none (execSs (gN tab (k + 1)) [] [.shr (.int n), .shr (.lst (sqs ls)), .un] d_check_orders.body [.shr (.int n), .shr (.lst (sqs ls)), .un]) = _
  simp only [d_check_orders, one_more, no_more, e]
  exact key _ .un
/-! ### turned_between -/
def dd (ys : List Int) (k : Nat) : List (PV × PV) := (ys.zipIdx k).map fun p => (.int p.1, .int p.2)
theorem look_dd {ys : List Int} {y : Int} : ∀ {k : Nat}, y ∈ ys → lookPV (.int y) (dd ys k) = some (.int ((k + ix ys y : Nat) : Int)) := by
  induction ys with
  | nil => intro k h; cases h
  | cons a ys ih =>
    intro k h
    simp only [dd, List.zipIdx_cons, List.map_cons, lookPV, PV.int.injEq]
    by_cases e : a = y
    · subst e; simp [ix, List.idxOf_cons]
    · have h' : y ∈ ys := by
        rcases List.mem_cons.mp h with h | h
        · exact absurd h.symm e
        · exact h
      have := ih (k := k + 1) h'
      unfold dd at this
      rw [if_neg e, this]
      have e2 : (a == y) = false := by simpa using e
      simp only [ix, List.idxOf_cons, e2, cond_false]
      congr 2; omega
theorem put_new {k v : PV} {kvs : List (PV × PV)} (h : ∀ q ∈ kvs, q.1 ≠ k) : putPV k v kvs = kvs ++ [(k, v)] := by
  unfold putPV
  rw [if_neg]
  simp only [List.any_eq_true, decide_eq_true_eq, not_exists, not_and]
  exact fun q hq => h q hq
theorem dc_place {g : Gm} {X Y : SV} {rest : Rho} : ∀ {ys : List Int} {k : Nat} {acc : List (PV × PV)}, (∀ y ∈ ys, ∀ q ∈ acc, q.1 ≠ .int y) → ys.Nodup →
    dcL (.many [3, 4]) [3, 4] (fun ρ => (evalE g .val (.var 4) ρ).bnd fun a ρ => (evalE g .val (.var 3) ρ).bnd fun b ρ => .ok (a.sv.val, b.sv.val) ρ) (enumPV k (il ys)) acc (X :: Y :: .un :: .un :: .un :: rest) = .ok (acc ++ dd ys k) (X :: Y :: .un :: .un :: .un :: rest)
  | [], k, acc, _, _ => by simp [enumPV, dc_nil, dd]
  | y :: ys, k, acc, h, hn => by
    have hn' := List.nodup_cons.mp hn
    have e : enumPV k (il (y :: ys)) = .tup [.int k, .int y] :: enumPV (k + 1) (il ys) := rfl
    rw [e, dc_cons (ρ1 := X :: Y :: .un :: .shr (.int k) :: .shr (.int y) :: rest) (ρ2 := X :: Y :: .un :: .shr (.int k) :: .shr (.int y) :: rest) (k := .int y) (v := .int k) rfl (by simp [execSs, execS, evalE, evalEs, evalOs, evalAs, evalIt, evalTe, evalOe, evalAnd, evalOr, getAll, argsOf, refOf, setBk, askV, peekV, readV, ↓bnd_tag, ↓out_tag, ↓seq_tag, tbnd_ok, tbnd_exc, tbnd_bad, tout_bad, tseq_bad, end_bad, tout_ok, tout_exc, tseq_nx, tseq_rt, tseq_ex, tseq_bk, tseq_ct, of_some, fin_val, fin_opd, fin_tst, end_nx, end_rt, end_ex, Opd.get, sv_imm, tru_imm, val_shr, val_own, val_own2, val_frz2, scalar, backOf, setSlot, lnt, lt, packL, isOwnL]) rfl]
    rw [put_new (h y (by simp))]
    show dcL (.many [3, 4]) [3, 4] _ (enumPV (k + 1) (il ys)) (acc ++ [(.int y, .int k)]) (X :: Y :: .un :: .un :: .un :: rest) = _
    rw [dc_place (fun z hz q hq => ?_) hn'.2]
    · simp [dd, List.zipIdx_cons]
    · rcases List.mem_append.mp hq with hq | hq
      · exact h z (by simp [hz]) q hq
      · rw [List.mem_singleton.mp hq]
        intro e2
        cases e2
        exact hn'.1 hz
theorem enum_len (xs : List PV) : ∀ k, (enumPV k xs).length = xs.length := by
  induction xs with
  | nil => intro k; rfl
  | cons x xs ih => intro k; simp [enumPV, ih]
theorem cut_to (xs : List PV) {i : Nat} (h : i ≤ xs.length) : cutP xs none (some (i : Int)) = xs.take i := by
  unfold cutP slcB
  have e : ((if (i : Int) < 0 then (if (i : Int) + xs.length < 0 then 0 else (i : Int) + xs.length) else if (i : Int) > xs.length then (xs.length : Int) else i) : Int) = i := by
    rw [if_neg (by omega), if_neg (by omega)]
  simp only [e]
  simp
theorem cut_from (xs : List PV) {i : Nat} (h : i ≤ xs.length) : cutP xs (some (i : Int)) none = xs.drop i := by
  unfold cutP slcB
  have e : ((if (i : Int) < 0 then (if (i : Int) + xs.length < 0 then 0 else (i : Int) + xs.length) else if (i : Int) > xs.length then (xs.length : Int) else i) : Int) = i := by
    rw [if_neg (by omega), if_neg (by omega)]
  simp only [e]
  rw [List.take_of_length_le]
  · simp
  · simp
abbrev tp (p : Int × Int) : SV := .shr (.tup [.int p.1, .int p.2])
theorem tb_in {g : Gm} {X Y a s4 : SV} {ys : List Int} {y : Int} (hy : y ∈ ys) : ∀ {zs : List Int}, (∀ z ∈ zs, z ∈ ys) →
    lcL (.one 6) [6] (fun ρ => (evalTe g q_turned_between_5 ρ).bnd fun b ρ => if b = true then (evalE g .val q_turned_between_6 ρ).bnd fun v ρ => .ok (some v.sv) ρ else .ok none ρ) (il zs) [X, Y, .own (.dct (dd ys 0)), a, s4, .shr (.int y), .un]
      = .ok (((zs.filter fun x => decide (ix ys y < ix ys x)).map fun x => (x, y)).map tp) [X, Y, .own (.dct (dd ys 0)), a, s4, .shr (.int y), .un]
  | [], _ => rfl
  | z :: zs, h => by
    have hz := h z (by simp)
    have turn : (fun ρ => (evalTe g q_turned_between_5 ρ).bnd fun b ρ => if b = true then (evalE g .val q_turned_between_6 ρ).bnd fun v ρ => .ok (some v.sv) ρ else .ok none ρ) [X, Y, .own (.dct (dd ys 0)), a, s4, .shr (.int y), .shr (.int z)]
        = (.ok (if ix ys y < ix ys z then some (tp (z, y)) else none) [X, Y, .own (.dct (dd ys 0)), a, s4, .shr (.int y), .shr (.int z)] : Rr (Option SV)) := by
      have l1 := look_dd (k := 0) hy
      have l2 := look_dd (k := 0) hz
      simp only [Nat.zero_add] at l1 l2
      by_cases e : ix ys y < ix ys z
      · have e' : ((ix ys y : Nat) : Int) < (ix ys z : Nat) := by omega
        simp [execSs, execS, evalE, evalEs, evalOs, evalAs, evalIt, evalTe, evalOe, evalAnd, evalOr, getAll, argsOf, refOf, setBk, askV, peekV, readV, ↓bnd_tag, ↓out_tag, ↓seq_tag, tbnd_ok, tbnd_exc, tbnd_bad, tout_bad, tseq_bad, end_bad, tout_ok, tout_exc, tseq_nx, tseq_rt, tseq_ex, tseq_bk, tseq_ct, of_some, fin_val, fin_opd, fin_tst, end_nx, end_rt, end_ex, Opd.get, sv_imm, tru_imm, val_shr, val_own, val_own2, val_frz2, scalar, backOf, setSlot, lnt, lt, packL, isOwnL, q_turned_between_5, q_turned_between_6, idxPV, keyPV, l1, l2, lt_int, truthP, e, big, tp]
      · have e' : ¬ ((ix ys y : Nat) : Int) < (ix ys z : Nat) := by omega
        simp [execSs, execS, evalE, evalEs, evalOs, evalAs, evalIt, evalTe, evalOe, evalAnd, evalOr, getAll, argsOf, refOf, setBk, askV, peekV, readV, ↓bnd_tag, ↓out_tag, ↓seq_tag, tbnd_ok, tbnd_exc, tbnd_bad, tout_bad, tseq_bad, end_bad, tout_ok, tout_exc, tseq_nx, tseq_rt, tseq_ex, tseq_bk, tseq_ct, of_some, fin_val, fin_opd, fin_tst, end_nx, end_rt, end_ex, Opd.get, sv_imm, tru_imm, val_shr, val_own, val_own2, val_frz2, scalar, backOf, setSlot, lnt, lt, packL, isOwnL, q_turned_between_5, q_turned_between_6, idxPV, keyPV, l1, l2, lt_int, truthP, e, big, tp]
    refine (lc_cons (ρ1 := [X, Y, .own (.dct (dd ys 0)), a, s4, .shr (.int y), .shr (.int z)]) rfl turn (tb_in hy fun w hw => h w (by simp [hw]))).trans ?_
    by_cases e : ix ys y < ix ys z
    · simp [e]
    · simp [e]
theorem tb_out {g : Gm} {Y : SV} {xs ys : List Int} (hx : ∀ x ∈ xs, x ∈ ys) : ∀ {ws pre : List Int}, xs = pre ++ ws →
    lcL2 (.many [3, 5]) [3, 5, 6] [6] (fun ρ => (evalIt g q_turned_between_4 ρ).bnd fun p ρ => if p.2.isEmpty = true then .ok p.1 ρ else .bad) (.one 6) (fun ρ => (evalTe g q_turned_between_5 ρ).bnd fun b ρ => if b = true then (evalE g .val q_turned_between_6 ρ).bnd fun v ρ => .ok (some v.sv) ρ else .ok none ρ)
      (enumPV pre.length (il ws)) [.shr (.lst (il xs)), Y, .own (.dct (dd ys 0)), .un, .un, .un, .un]
      = .ok (((ws.zipIdx pre.length).flatMap fun p => ((xs.take p.2).filter fun x => decide (ix ys p.1 < ix ys x)).map fun x => (x, p.1)).map tp) [.shr (.lst (il xs)), Y, .own (.dct (dd ys 0)), .un, .un, .un, .un]
  | [], pre, _ => rfl
  | y :: ws, pre, e => by
    have hy : y ∈ ys := hx y (by rw [e]; simp)
    have e1 : enumPV pre.length (il (y :: ws)) = .tup [.int pre.length, .int y] :: enumPV (pre.length + 1) (il ws) := rfl
    have hl : pre.length ≤ (il xs).length := by rw [e]; simp
    have inner : (fun ρ => (evalIt g q_turned_between_4 ρ).bnd fun p ρ => if p.2.isEmpty = true then .ok p.1 ρ else .bad) [.shr (.lst (il xs)), Y, .own (.dct (dd ys 0)), .shr (.int pre.length), .un, .shr (.int y), .un]
        = (.ok (il (xs.take pre.length)) [.shr (.lst (il xs)), Y, .own (.dct (dd ys 0)), .shr (.int pre.length), .un, .shr (.int y), .un] : Rr (List PV)) := by
      simp [execSs, execS, evalE, evalEs, evalOs, evalAs, evalIt, evalTe, evalOe, evalAnd, evalOr, getAll, argsOf, refOf, setBk, askV, peekV, readV, ↓bnd_tag, ↓out_tag, ↓seq_tag, tbnd_ok, tbnd_exc, tbnd_bad, tout_bad, tseq_bad, end_bad, tout_ok, tout_exc, tseq_nx, tseq_rt, tseq_ex, tseq_bk, tseq_ct, of_some, fin_val, fin_opd, fin_tst, end_nx, end_rt, end_ex, Opd.get, sv_imm, tru_imm, val_shr, val_own, val_own2, val_frz2, scalar, backOf, setSlot, lnt, lt, packL, isOwnL, q_turned_between_4, slcPV, cut_to _ hl, hidO, il, List.map_take]
    have rc := tb_out (g := g) (Y := Y) hx (ws := ws) (pre := pre ++ [y]) (by rw [e]; simp)
    rw [List.length_append, List.length_singleton] at rc
    rw [e1]
    refine (lc2_cons (tg := .many [3, 5]) (own := [3, 5, 6]) (inner := fun ρ => (evalIt g q_turned_between_4 ρ).bnd fun p ρ => if p.2.isEmpty = true then .ok p.1 ρ else .bad) (ρ1 := [.shr (.lst (il xs)), Y, .own (.dct (dd ys 0)), .shr (.int pre.length), .un, .shr (.int y), .un]) rfl inner (tb_in hy fun z hz => hx z (List.mem_of_mem_take hz)) rc).trans ?_
    simp [List.zipIdx_cons]
def shortL (xs : List Int) : Prop := xs.length ≤ 20
theorem tb_len {xs ys : List Int} (h : shortL xs) : (tb xs ys).length ≤ 400 := by
  unfold tb
  rw [List.length_flatMap]
  have : ∀ (l : List (Int × Nat)), (l.map fun p => (((xs.take p.2).filter fun x => decide (ix ys p.1 < ix ys x)).map fun x => (x, p.1)).length).sum ≤ l.length * 20 := by
    intro l
    induction l with
    | nil => simp
    | cons p l ih =>
      simp only [List.map_cons, List.sum_cons, List.length_cons, List.length_map]
      have h1 := List.length_filter_le (fun x => decide (ix ys p.1 < ix ys x)) (xs.take p.2)
      have h2 : (xs.take p.2).length ≤ 20 := by
        have : xs.length ≤ 20 := h
        simp only [List.length_take]; omega
      simp only [List.length_map] at ih
      omega
  have := this xs.zipIdx
  simp only [List.length_zipIdx] at this
  have h' : xs.length ≤ 20 := h
  omega
theorem c2 (k : Nat) (t : Bool) {xs ys : List Int} (p : xs.Perm ys) (hn : ys.Nodup) (h : shortL ys) : (gN tab (k + 1)).call 2 [.shr (.lst (il xs)), .shr (sq t ys)] = .ok (.own (.lst (pl (tu xs ys)))) .un := by
  have h' : ys.length ≤ 20 := h
  have hx : shortL xs := by show xs.length ≤ 20; rw [p.length_eq]; exact h'
  have hx' : xs.length ≤ 20 := hx
  rw [cl]
  show runD (gN tab k) d_turned_between _ = _
  rw [runD_eq rfl]
  have e1 : ∀ ρ0, execS (gN tab k) [] ρ0 (.set 2 q_turned_between_3) [.shr (.lst (il xs)), .shr (sq t ys), .un, .un, .un, .un, .un] = .nx [.shr (.lst (il xs)), .shr (sq t ys), .own (.dct (dd ys 0)), .un, .un, .un, .un] := by
    intro ρ0
    have d := dc_place (g := gN tab k) (X := .shr (.lst (il xs))) (Y := .shr (sq t ys)) (rest := [.un, .un]) (ys := ys) (k := 0) (acc := []) (fun _ _ _ z => nomatch z) hn
    have l : (enumPV 0 (il ys)).length ≤ big := by rw [enum_len]; simp [big]; omega
    have d2 : dcL (.many [3, 4]) [3, 4] (fun ρ => (evalE (gN tab k) .val q_turned_between_1 ρ).bnd fun a ρ => (evalE (gN tab k) .val q_turned_between_2 ρ).bnd fun b ρ => .ok (a.sv.val, b.sv.val) ρ) (enumPV 0 (il ys)) [] [.shr (.lst (il xs)), .shr (sq t ys), .un, .un, .un, .un, .un] = .ok (dd ys 0) [.shr (.lst (il xs)), .shr (sq t ys), .un, .un, .un, .un, .un] := d
    have it : evalIt (gN tab k) (.enm (.var 1)) [.shr (.lst (il xs)), .shr (sq t ys), .un, .un, .un, .un, .un] = .ok (enumPV 0 (il ys), []) [.shr (.lst (il xs)), .shr (sq t ys), .un, .un, .un, .un, .un] := by
      cases t <;> simp [execSs, execS, evalE, evalEs, evalOs, evalAs, evalIt, evalTe, evalOe, evalAnd, evalOr, getAll, argsOf, refOf, setBk, askV, peekV, readV, ↓bnd_tag, ↓out_tag, ↓seq_tag, tbnd_ok, tbnd_exc, tbnd_bad, tout_bad, tseq_bad, end_bad, tout_ok, tout_exc, tseq_nx, tseq_rt, tseq_ex, tseq_bk, tseq_ct, of_some, fin_val, fin_opd, fin_tst, end_nx, end_rt, end_ex, Opd.get, sv_imm, tru_imm, val_shr, val_own, val_own2, val_frz2, scalar, backOf, setSlot, lnt, lt, packL, isOwnL, sq, hidO]
    have ev : evalE (gN tab k) .val q_turned_between_3 [.shr (.lst (il xs)), .shr (sq t ys), .un, .un, .un, .un, .un] = _ := ev_dc (m := .val) (by decide) it (own := [3, 4]) (by simp [notOwn, apart, l]) d2
    simp [execSs, execS, evalE, evalEs, evalOs, evalAs, evalIt, evalTe, evalOe, evalAnd, evalOr, getAll, argsOf, refOf, setBk, askV, peekV, readV, ↓bnd_tag, ↓out_tag, ↓seq_tag, tbnd_ok, tbnd_exc, tbnd_bad, tout_bad, tseq_bad, end_bad, tout_ok, tout_exc, tseq_nx, tseq_rt, tseq_ex, tseq_bk, tseq_ct, of_some, fin_val, fin_opd, fin_tst, end_nx, end_rt, end_ex, Opd.get, sv_imm, tru_imm, val_shr, val_own, val_own2, val_frz2, scalar, backOf, setSlot, lnt, lt, packL, isOwnL, ev, backR]
  have e2 : ∀ ρ0, execS (gN tab k) [] ρ0 (.ret (.blt .sorted (.cons q_turned_between_7 .nil))) [.shr (.lst (il xs)), .shr (sq t ys), .own (.dct (dd ys 0)), .un, .un, .un, .un]
      = .rt (.own (.lst (pl (tu xs ys)))) [.shr (.lst (il xs)), .shr (sq t ys), .own (.dct (dd ys 0)), .un, .un, .un, .un] := by
    intro ρ0
    have d := tb_out (g := gN tab k) (Y := .shr (sq t ys)) (xs := xs) (ys := ys) (fun x hx => p.mem_iff.mp hx) (ws := xs) (pre := []) rfl
    have it : evalIt (gN tab k) (.enm (.var 0)) [.shr (.lst (il xs)), .shr (sq t ys), .own (.dct (dd ys 0)), .un, .un, .un, .un] = .ok (enumPV 0 (il xs), []) [.shr (.lst (il xs)), .shr (sq t ys), .own (.dct (dd ys 0)), .un, .un, .un, .un] := by
      simp [execSs, execS, evalE, evalEs, evalOs, evalAs, evalIt, evalTe, evalOe, evalAnd, evalOr, getAll, argsOf, refOf, setBk, askV, peekV, readV, ↓bnd_tag, ↓out_tag, ↓seq_tag, tbnd_ok, tbnd_exc, tbnd_bad, tout_bad, tseq_bad, end_bad, tout_ok, tout_exc, tseq_nx, tseq_rt, tseq_ex, tseq_bk, tseq_ct, of_some, fin_val, fin_opd, fin_tst, end_nx, end_rt, end_ex, Opd.get, sv_imm, tru_imm, val_shr, val_own, val_own2, val_frz2, scalar, backOf, setSlot, lnt, lt, packL, isOwnL, hidO]
    have d2 : _ = Rr.ok ((tb xs ys).map tp) [.shr (.lst (il xs)), .shr (sq t ys), .own (.dct (dd ys 0)), .un, .un, .un, .un] := d
    have l : ((tb xs ys).map tp).length ≤ big := by have := tb_len (ys := ys) hx; rw [List.length_map]; simp [big]; omega
    have pk : ((tb xs ys).map tp).map SV.val = pl (tb xs ys) := by simp [pl, tp, SV.val]
    have so := b_sortedp (tb xs ys)
    rw [tb_sort (p.nodup_iff.mpr hn)] at so
    simp only [List.length_nil] at d2
    have ev : evalE (gN tab k) .opd q_turned_between_7 [.shr (.lst (il xs)), .shr (sq t ys), .own (.dct (dd ys 0)), .un, .un, .un, .un] = _ := ev_lc2 (m := .opd) (by decide) it (own := [3, 5, 6]) (by simp [notOwn, apart]) d2 l
    rw [pk] at ev
    simp [execSs, execS, evalE, evalEs, evalOs, evalAs, evalIt, evalTe, evalOe, evalAnd, evalOr, getAll, argsOf, refOf, setBk, askV, peekV, readV, ↓bnd_tag, ↓out_tag, ↓seq_tag, tbnd_ok, tbnd_exc, tbnd_bad, tout_bad, tseq_bad, end_bad, tout_ok, tout_exc, tseq_nx, tseq_rt, tseq_ex, tseq_bk, tseq_ct, of_some, fin_val, fin_opd, fin_tst, end_nx, end_rt, end_ex, Opd.get, sv_imm, tru_imm, val_shr, val_own, val_own2, val_frz2, scalar, backOf, setSlot, lnt, lt, packL, isOwnL, ev, backR, so]
  show endD none (execSs (gN tab k) [] [.shr (.lst (il xs)), .shr (sq t ys), .un, .un, .un, .un, .un] d_turned_between.body [.shr (.lst (il xs)), .shr (sq t ys), .un, .un, .un, .un, .un]) = _
  simp only [d_turned_between, execSs, e1, e2, seq_nx, seq_rt, end_rt, backOf]
end K28
end KL
end
section
set_option linter.all false
set_option maxRecDepth 100000
/-! K28Q: what the defs of k28 compute: turned_pairs to exchange_way. -/
namespace KL
namespace K28
open PySem
def Ord (n : Nat) (xs : List Int) : Prop := xs.Perm (ranged n)
theorem ranged_len (n : Nat) : (ranged n).length = n := by simp [ranged]
theorem ranged_sorted (n : Int) : (ranged n).Pairwise (· < ·) := by
  unfold ranged
  rw [List.pairwise_map]
  exact List.pairwise_lt_range.imp (by omega)
theorem ranged_nodup (n : Int) : (ranged n).Nodup := (ranged_sorted n).imp (by omega)
theorem isOrd_iff (n : Int) (xs : List Int) : isOrd n xs = true ↔ xs.Perm (ranged n) := by
  unfold isOrd
  rw [decide_eq_true_eq]
  constructor
  · intro h; rw [← h]; exact (srt_perm xs).symm
  · intro h
    exact List.Perm.eq_of_pairwise (le := fun a b : Int => a ≤ b) (fun a b _ _ h1 h2 => by omega) (srt_sorted xs) ((ranged_sorted n).imp (by omega)) ((srt_perm xs).trans h)
theorem Ord.len {n : Nat} {xs : List Int} (h : Ord n xs) : xs.length = n := by rw [h.length_eq, ranged_len]
theorem Ord.nd {n : Nat} {xs : List Int} (h : Ord n xs) : xs.Nodup := h.nodup_iff.mpr (ranged_nodup _)
theorem Ord.is {n : Nat} {xs : List Int} (h : Ord n xs) : isOrd n xs = true := (isOrd_iff _ _).mpr h
theorem Ord.perm {n : Nat} {xs ys : List Int} (h : Ord n xs) (h2 : Ord n ys) : xs.Perm ys := h.trans h2.symm
theorem Ord.rev {n : Nat} {xs : List Int} (h : Ord n xs) : Ord n xs.reverse := (List.reverse_perm xs).trans h
theorem Ord.short {n : Nat} {xs : List Int} (h : Ord n xs) (hn : n ≤ 20) : shortL xs := by show xs.length ≤ 20; rw [h.len]; exact hn
theorem Ord.nil {n : Nat} {xs : List Int} (h : Ord n xs) : isOrd xs.length xs = true := by rw [h.len]; exact h.is
theorem c3 (k : Nat) (t1 t2 : Bool) {xs ys : List Int} (hx : xs.length ≤ 1000) : (gN tab (k + 3)).call 3 [.shr (sq t1 xs), .shr (sq t2 ys)] = (match chk xs.length [(t1, xs), (t2, ys)] with
    | .ok _ _ => (match (gN tab (k + 2)).call 2 [.shr (sq t1 xs), .shr (sq t2 ys)] with | .ok v _ => .ok v .un | .exc p _ => .exc p .un | .bad => .bad)
    | .exc p _ => .exc p .un
    | .bad => .bad) := by
  have h1 := c1 k xs.length [(t1, xs), (t2, ys)] (by omega) (by omega)
  rw [cl]
  show runD (gN tab (k + 2)) d_turned_pairs _ = _
  rw [runD_eq rfl]
  simp only [sqs, List.map_cons, List.map_nil] at h1
  simp [execSs, execS, evalE, evalEs, evalOs, evalAs, evalIt, evalTe, evalOe, evalAnd, evalOr, getAll, argsOf, refOf, setBk, askV, peekV, readV, ↓bnd_tag, ↓out_tag, ↓seq_tag, tbnd_ok, tbnd_exc, tbnd_bad, tout_bad, tseq_bad, end_bad, tout_ok, tout_exc, tseq_nx, tseq_rt, tseq_ex, tseq_bk, tseq_ct, of_some, fin_val, fin_opd, fin_tst, end_nx, end_rt, end_ex, Opd.get, sv_imm, tru_imm, val_shr, val_own, val_own2, val_frz2, scalar, backOf, setSlot, lnt, lt, packL, isOwnL, d_turned_pairs, b_len, h1, big]
  cases chk (↑xs.length) [(t1, xs), (t2, ys)] with
  | ok v bk =>
    simp [execSs, execS, evalE, evalEs, evalOs, evalAs, evalIt, evalTe, evalOe, evalAnd, evalOr, getAll, argsOf, refOf, setBk, askV, peekV, readV, ↓bnd_tag, ↓out_tag, ↓seq_tag, tbnd_ok, tbnd_exc, tbnd_bad, tout_bad, tseq_bad, end_bad, tout_ok, tout_exc, tseq_nx, tseq_rt, tseq_ex, tseq_bk, tseq_ct, of_some, fin_val, fin_opd, fin_tst, end_nx, end_rt, end_ex, Opd.get, sv_imm, tru_imm, val_shr, val_own, val_own2, val_frz2, scalar, backOf, setSlot, lnt, lt, packL, isOwnL]
    cases (gN tab (k + 2)).call 2 [.shr (sq t1 xs), .shr (sq t2 ys)] <;> simp [execSs, execS, evalE, evalEs, evalOs, evalAs, evalIt, evalTe, evalOe, evalAnd, evalOr, getAll, argsOf, refOf, setBk, askV, peekV, readV, ↓bnd_tag, ↓out_tag, ↓seq_tag, tbnd_ok, tbnd_exc, tbnd_bad, tout_bad, tseq_bad, end_bad, tout_ok, tout_exc, tseq_nx, tseq_rt, tseq_ex, tseq_bk, tseq_ct, of_some, fin_val, fin_opd, fin_tst, end_nx, end_rt, end_ex, Opd.get, sv_imm, tru_imm, val_shr, val_own, val_own2, val_frz2, scalar, backOf, setSlot, lnt, lt, packL, isOwnL]
  | exc p bk => simp [execSs, execS, evalE, evalEs, evalOs, evalAs, evalIt, evalTe, evalOe, evalAnd, evalOr, getAll, argsOf, refOf, setBk, askV, peekV, readV, ↓bnd_tag, ↓out_tag, ↓seq_tag, tbnd_ok, tbnd_exc, tbnd_bad, tout_bad, tseq_bad, end_bad, tout_ok, tout_exc, tseq_nx, tseq_rt, tseq_ex, tseq_bk, tseq_ct, of_some, fin_val, fin_opd, fin_tst, end_nx, end_rt, end_ex, Opd.get, sv_imm, tru_imm, val_shr, val_own, val_own2, val_frz2, scalar, backOf, setSlot, lnt, lt, packL, isOwnL]
  | bad => rfl
theorem c3_ok (k : Nat) (t : Bool) {n : Nat} {xs ys : List Int} (hx : Ord n xs) (hy : Ord n ys) (hn : n ≤ 20) : (gN tab (k + 3)).call 3 [.shr (.lst (il xs)), .shr (sq t ys)] = .ok (.own (.lst (pl (tu xs ys)))) .un := by
  have := c3 k false t (xs := xs) (ys := ys) (by rw [hx.len]; omega)
  have e : chk (↑xs.length) [(false, xs), (t, ys)] = .ok (.shr .non) .un := by
    unfold chk; rw [hx.len]; simp [List.find?_cons, hx.is, hy.is]
  rw [e] at this
  have e2 := c2 (k + 1) t (hx.perm hy) hy.nd (hy.short hn)
  show (gN tab (k + 3)).call 3 [.shr (sq false xs), .shr (sq t ys)] = _
  rw [this]
  show (match (gN tab (k + 1 + 1)).call 2 [.shr (.lst (il xs)), .shr (sq t ys)] with | .ok v _ => CR.ok v .un | .exc p _ => .exc p .un | .bad => .bad) = _
  rw [e2]
theorem in_loop {g : Gm} {a b c : SV} {qs : List (Int × Int)} : ∀ {ps : List (Int × Int)}, lcL (.one 4) [4] (fun ρ => (evalTe g q_is_middle_1 ρ).bnd fun b ρ => if b = true then (evalE g .val q_is_middle_2 ρ).bnd fun v ρ => .ok (some v.sv) ρ else .ok none ρ) (pl ps) [a, b, c, .own (.lst (pl qs)), .un]
    = .ok (ps.map fun p => .shr (.bl (decide (p ∈ qs)))) [a, b, c, .own (.lst (pl qs)), .un]
  | [] => rfl
  | p :: ps => by
    refine (lc_cons (ρ1 := [a, b, c, .own (.lst (pl qs)), .shr (.tup [.int p.1, .int p.2])]) (o := some (.shr (.bl (decide (p ∈ qs))))) (ρ2 := [a, b, c, .own (.lst (pl qs)), .shr (.tup [.int p.1, .int p.2])]) rfl ?_ in_loop).trans (by simp)
    simp [execSs, execS, evalE, evalEs, evalOs, evalAs, evalIt, evalTe, evalOe, evalAnd, evalOr, getAll, argsOf, refOf, setBk, askV, peekV, readV, ↓bnd_tag, ↓out_tag, ↓seq_tag, tbnd_ok, tbnd_exc, tbnd_bad, tout_bad, tseq_bad, end_bad, tout_ok, tout_exc, tseq_nx, tseq_rt, tseq_ex, tseq_bk, tseq_ct, of_some, fin_val, fin_opd, fin_tst, end_nx, end_rt, end_ex, Opd.get, sv_imm, tru_imm, val_shr, val_own, val_own2, val_frz2, scalar, backOf, setSlot, lnt, lt, packL, isOwnL, q_is_middle_1, q_is_middle_2, in_pl]
theorem any_not (ps qs : List (Int × Int)) : (!(ps.map fun p => decide (p ∈ qs)).any id) = ps.all fun p => !decide (p ∈ qs) := by
  induction ps with
  | nil => rfl
  | cons p ps ih => simp only [List.map_cons, List.any_cons, List.all_cons, id, Bool.not_or, ih]
theorem c4 (k : Nat) {n : Nat} {o f s : List Int} (ho : Ord n o) (hf : Ord n f) (hs : Ord n s) (hn : n ≤ 20) : (gN tab (k + 2)).call 4 [.shr (.lst (il o)), .shr (.lst (il f)), .shr (.lst (il s))] = .ok (.shr (.bl (mid o f s))) .un := by
  have e1 := c2 k false (ho.perm hs) hs.nd (hs.short hn)
  have e2 := c2 k false (ho.perm hf) hf.nd (hf.short hn)
  simp only [sq, Bool.false_eq_true, if_false] at e1 e2
  rw [cl]
  show runD (gN tab (k + 1)) d_is_middle _ = _
  rw [runD_eq rfl]
  let R : Rho := [.shr (.lst (il o)), .shr (.lst (il f)), .shr (.lst (il s)), .own (.lst (pl (tu o s))), .un]
  have it : evalIt (gN tab (k + 1)) (.seq (.call false 2 (.cons (.var 0) (.cons (.var 1) .nil)))) R = .ok (pl (tu o f), []) R := by simp [execSs, execS, evalE, evalEs, evalOs, evalAs, evalIt, evalTe, evalOe, evalAnd, evalOr, getAll, argsOf, refOf, setBk, askV, peekV, readV, ↓bnd_tag, ↓out_tag, ↓seq_tag, tbnd_ok, tbnd_exc, tbnd_bad, tout_bad, tseq_bad, end_bad, tout_ok, tout_exc, tseq_nx, tseq_rt, tseq_ex, tseq_bk, tseq_ct, of_some, fin_val, fin_opd, fin_tst, end_nx, end_rt, end_ex, Opd.get, sv_imm, tru_imm, val_shr, val_own, val_own2, val_frz2, scalar, backOf, setSlot, lnt, lt, packL, isOwnL, e2, hidO, R]
  have l : (pl (tu o f)).length ≤ big := by
    have := tb_len (ys := f) (ho.short hn)
    rw [← tb_sort ho.nd]
    simp [big]; omega
  have ev : evalE (gN tab (k + 1)) .opd q_is_middle_3 R = _ := ev_lc (m := .opd) (by decide) it (own := [4]) (by simp [notOwn, apart, R]; simpa using l) (in_loop (ps := tu o f))
  have eb : ((tu o f).map fun p => SV.shr (.bl (decide (p ∈ tu o s)))).map SV.val = ((tu o f).map fun p => decide (p ∈ tu o s)).map PV.bl := by simp [val_shr]
  rw [eb] at ev
  have ea := any_bl ((tu o f).map fun p => decide (p ∈ tu o s))
  have hm := any_not (tu o f) (tu o s)
  simp only [R] at ev
  simp [-List.map_map, -List.any_map, execSs, execS, evalE, evalEs, evalOs, evalAs, evalIt, evalTe, evalOe, evalAnd, evalOr, getAll, argsOf, refOf, setBk, askV, peekV, readV, ↓bnd_tag, ↓out_tag, ↓seq_tag, tbnd_ok, tbnd_exc, tbnd_bad, tout_bad, tseq_bad, end_bad, tout_ok, tout_exc, tseq_nx, tseq_rt, tseq_ex, tseq_bk, tseq_ct, of_some, fin_val, fin_opd, fin_tst, end_nx, end_rt, end_ex, Opd.get, sv_imm, tru_imm, val_shr, val_own, val_own2, val_frz2, scalar, backOf, setSlot, lnt, lt, packL, isOwnL, d_is_middle, e1, ev, backR, ea, truthP, hm]
  simpa [mid] using hm
theorem c5 (k : Nat) (t1 t2 t3 : Bool) {o f s : List Int} (hx : o.length ≤ 1000) : (gN tab (k + 3)).call 5 [.shr (sq t1 o), .shr (sq t2 f), .shr (sq t3 s)] = (match chk o.length [(t1, o), (t2, f), (t3, s)] with
    | .ok _ _ => (match (gN tab (k + 2)).call 4 [.shr (sq t1 o), .shr (sq t2 f), .shr (sq t3 s)] with | .ok v _ => .ok v .un | .exc p _ => .exc p .un | .bad => .bad)
    | .exc p _ => .exc p .un
    | .bad => .bad) := by
  have h1 := c1 k o.length [(t1, o), (t2, f), (t3, s)] (by omega) (by omega)
  rw [cl]
  show runD (gN tab (k + 2)) d_lies_between _ = _
  rw [runD_eq rfl]
  simp only [sqs, List.map_cons, List.map_nil] at h1
  simp [execSs, execS, evalE, evalEs, evalOs, evalAs, evalIt, evalTe, evalOe, evalAnd, evalOr, getAll, argsOf, refOf, setBk, askV, peekV, readV, ↓bnd_tag, ↓out_tag, ↓seq_tag, tbnd_ok, tbnd_exc, tbnd_bad, tout_bad, tseq_bad, end_bad, tout_ok, tout_exc, tseq_nx, tseq_rt, tseq_ex, tseq_bk, tseq_ct, of_some, fin_val, fin_opd, fin_tst, end_nx, end_rt, end_ex, Opd.get, sv_imm, tru_imm, val_shr, val_own, val_own2, val_frz2, scalar, backOf, setSlot, lnt, lt, packL, isOwnL, d_lies_between, b_len, h1, big]
  cases chk (↑o.length) [(t1, o), (t2, f), (t3, s)] with
  | ok v bk =>
    simp [execSs, execS, evalE, evalEs, evalOs, evalAs, evalIt, evalTe, evalOe, evalAnd, evalOr, getAll, argsOf, refOf, setBk, askV, peekV, readV, ↓bnd_tag, ↓out_tag, ↓seq_tag, tbnd_ok, tbnd_exc, tbnd_bad, tout_bad, tseq_bad, end_bad, tout_ok, tout_exc, tseq_nx, tseq_rt, tseq_ex, tseq_bk, tseq_ct, of_some, fin_val, fin_opd, fin_tst, end_nx, end_rt, end_ex, Opd.get, sv_imm, tru_imm, val_shr, val_own, val_own2, val_frz2, scalar, backOf, setSlot, lnt, lt, packL, isOwnL]
    cases (gN tab (k + 2)).call 4 [.shr (sq t1 o), .shr (sq t2 f), .shr (sq t3 s)] <;> simp [execSs, execS, evalE, evalEs, evalOs, evalAs, evalIt, evalTe, evalOe, evalAnd, evalOr, getAll, argsOf, refOf, setBk, askV, peekV, readV, ↓bnd_tag, ↓out_tag, ↓seq_tag, tbnd_ok, tbnd_exc, tbnd_bad, tout_bad, tseq_bad, end_bad, tout_ok, tout_exc, tseq_nx, tseq_rt, tseq_ex, tseq_bk, tseq_ct, of_some, fin_val, fin_opd, fin_tst, end_nx, end_rt, end_ex, Opd.get, sv_imm, tru_imm, val_shr, val_own, val_own2, val_frz2, scalar, backOf, setSlot, lnt, lt, packL, isOwnL]
  | exc p bk => simp [execSs, execS, evalE, evalEs, evalOs, evalAs, evalIt, evalTe, evalOe, evalAnd, evalOr, getAll, argsOf, refOf, setBk, askV, peekV, readV, ↓bnd_tag, ↓out_tag, ↓seq_tag, tbnd_ok, tbnd_exc, tbnd_bad, tout_bad, tseq_bad, end_bad, tout_ok, tout_exc, tseq_nx, tseq_rt, tseq_ex, tseq_bk, tseq_ct, of_some, fin_val, fin_opd, fin_tst, end_nx, end_rt, end_ex, Opd.get, sv_imm, tru_imm, val_shr, val_own, val_own2, val_frz2, scalar, backOf, setSlot, lnt, lt, packL, isOwnL]
  | bad => rfl
theorem c5_ok (k : Nat) {n : Nat} {o f s : List Int} (ho : Ord n o) (hf : Ord n f) (hs : Ord n s) (hn : n ≤ 20) : (gN tab (k + 3)).call 5 [.shr (.lst (il o)), .shr (.lst (il f)), .shr (.lst (il s))] = .ok (.shr (.bl (mid o f s))) .un := by
  have := c5 k false false false (o := o) (f := f) (s := s) (by rw [ho.len]; omega)
  have e : chk (↑o.length) [(false, o), (false, f), (false, s)] = .ok (.shr .non) .un := by
    unfold chk; rw [ho.len]; simp [List.find?_cons, ho.is, hf.is, hs.is]
  rw [e] at this
  have e2 := c4 k ho hf hs hn
  show (gN tab (k + 3)).call 5 [.shr (sq false o), .shr (sq false f), .shr (sq false s)] = _
  rw [this]
  show (match (gN tab (k + 2)).call 4 [.shr (.lst (il o)), .shr (.lst (il f)), .shr (.lst (il s))] with | .ok v _ => CR.ok v .un | .exc p _ => .exc p .un | .bad => .bad) = _
  rw [e2]
/-! ### turning_at -/
theorem at_il {xs : List Int} {i : Nat} (h : i < xs.length) : idxPV (.lst (il xs)) (.int (i : Int)) = some (.int (xs.getD i 0)) := by
  show atP (il xs) (i : Int) = _
  unfold atP
  rw [if_pos (by omega)]
  simp [il, List.getD, h]
theorem at_il1 {xs : List Int} {i : Nat} (h : i + 1 < xs.length) : idxPV (.lst (il xs)) (.int ((i : Int) + 1)) = some (.int (xs.getD (i + 1) 0)) := by
  have := at_il h
  rw [show ((i + 1 : Nat) : Int) = (i : Int) + 1 by omega] at this
  exact this
theorem at_dd {ys : List Int} {y : Int} (h : y ∈ ys) : idxPV (.dct (dd ys 0)) (.int y) = some (.int (ix ys y)) := by
  have := look_dd (k := 0) h
  simp only [Nat.zero_add] at this
  exact this
def nxtV (xs ys : List Int) : SV := match nxt xs ys with
  | some i => .shr (.int i)
  | none => .shr .non
theorem getD_mem {xs : List Int} {i : Nat} (h : i < xs.length) : xs.getD i 0 ∈ xs := by rw [getD_at h]; exact List.getElem_mem h
theorem c6 (k : Nat) {xs ys : List Int} (p : xs.Perm ys) (hn : ys.Nodup) (h : shortL ys) : (gN tab (k + 1)).call 6 [.shr (.lst (il xs)), .shr (.lst (il ys))] = .ok (nxtV xs ys) .un := by
  have h' : ys.length ≤ 20 := h
  have hx' : xs.length ≤ 20 := by rw [p.length_eq]; exact h'
  rw [cl]
  show runD (gN tab k) d_turning_at _ = _
  rw [runD_eq rfl]
  have e1 : ∀ ρ0, execS (gN tab k) [] ρ0 (.set 2 q_turning_at_3) [.shr (.lst (il xs)), .shr (.lst (il ys)), .un, .un, .un] = .nx [.shr (.lst (il xs)), .shr (.lst (il ys)), .own (.dct (dd ys 0)), .un, .un] := by
    intro ρ0
    have d := dc_place (g := gN tab k) (X := .shr (.lst (il xs))) (Y := .shr (.lst (il ys))) (rest := []) (ys := ys) (k := 0) (acc := []) (fun _ _ _ z => nomatch z) hn
    have l : (enumPV 0 (il ys)).length ≤ big := by rw [enum_len]; simp [big]; omega
    have it : evalIt (gN tab k) (.enm (.var 1)) [.shr (.lst (il xs)), .shr (.lst (il ys)), .un, .un, .un] = .ok (enumPV 0 (il ys), []) [.shr (.lst (il xs)), .shr (.lst (il ys)), .un, .un, .un] := by
      simp [execSs, execS, evalE, evalEs, evalOs, evalAs, evalIt, evalTe, evalOe, evalAnd, evalOr, getAll, argsOf, refOf, setBk, askV, peekV, readV, ↓bnd_tag, ↓out_tag, ↓seq_tag, tbnd_ok, tbnd_exc, tbnd_bad, tout_bad, tseq_bad, end_bad, tout_ok, tout_exc, tseq_nx, tseq_rt, tseq_ex, tseq_bk, tseq_ct, of_some, fin_val, fin_opd, fin_tst, end_nx, end_rt, end_ex, Opd.get, sv_imm, tru_imm, val_shr, val_own, val_own2, val_frz2, scalar, backOf, setSlot, lnt, lt, packL, isOwnL, hidO]
    have ev : evalE (gN tab k) .val q_turning_at_3 [.shr (.lst (il xs)), .shr (.lst (il ys)), .un, .un, .un] = _ := ev_dc (m := .val) (by decide) it (own := [3, 4]) (by simp [notOwn, apart, l]) d
    simp [execSs, execS, evalE, evalEs, evalOs, evalAs, evalIt, evalTe, evalOe, evalAnd, evalOr, getAll, argsOf, refOf, setBk, askV, peekV, readV, ↓bnd_tag, ↓out_tag, ↓seq_tag, tbnd_ok, tbnd_exc, tbnd_bad, tout_bad, tseq_bad, end_bad, tout_ok, tout_exc, tseq_nx, tseq_rt, tseq_ex, tseq_bk, tseq_ct, of_some, fin_val, fin_opd, fin_tst, end_nx, end_rt, end_ex, Opd.get, sv_imm, tru_imm, val_shr, val_own, val_own2, val_frz2, scalar, backOf, setSlot, lnt, lt, packL, isOwnL, ev, backR]
  have key : ∀ (is : List Nat), (∀ i ∈ is, i + 1 < xs.length) → ∀ s3, endD none ((forL (.one 3) (fun ρ' => execSs (gN tab k) [] [.shr (.lst (il xs)), .shr (.lst (il ys)), .un, .un, .un] q_turning_at_4 ρ') (is.map fun (i : Nat) => PV.int (0 + (i : Int))) [.shr (.lst (il xs)), .shr (.lst (il ys)), .own (.dct (dd ys 0)), s3, .un]).seq fun ρ => .rt (.shr .non) ρ)
      = .ok (match is.find? (fun i => decide (ix ys (xs.getD (i + 1) 0) < ix ys (xs.getD i 0))) with | some i => .shr (.int i) | none => .shr .non) .un := by
    intro is
    induction is with
    | nil => intro _ s3; rfl
    | cons i is ih =>
      intro hi s3
      have hi1 := hi i (by simp)
      have turn : execSs (gN tab k) [] [.shr (.lst (il xs)), .shr (.lst (il ys)), .un, .un, .un] q_turning_at_4 [.shr (.lst (il xs)), .shr (.lst (il ys)), .own (.dct (dd ys 0)), .shr (.int (0 + (i : Int))), .un]
          = if ix ys (xs.getD (i + 1) 0) < ix ys (xs.getD i 0) then .rt (.shr (.int i)) [.shr (.lst (il xs)), .shr (.lst (il ys)), .own (.dct (dd ys 0)), .shr (.int i), .un] else .nx [.shr (.lst (il xs)), .shr (.lst (il ys)), .own (.dct (dd ys 0)), .shr (.int i), .un] := by
        have m1 := at_dd (p.mem_iff.mp (getD_mem hi1))
        have m2 := at_dd (p.mem_iff.mp (getD_mem (show i < xs.length by omega)))
        have a1 := at_il1 hi1
        have a2 := at_il (show i < xs.length by omega)
        rw [Int.zero_add]
        simp only [List.getD_eq_getElem?_getD] at m1 m2 a1 a2
        by_cases c : ix ys (xs.getD (i + 1) 0) < ix ys (xs.getD i 0)
        · rw [if_pos c]
          simp only [List.getD_eq_getElem?_getD] at c
          simp [execSs, execS, evalE, evalEs, evalOs, evalAs, evalIt, evalTe, evalOe, evalAnd, evalOr, getAll, argsOf, refOf, setBk, askV, peekV, readV, ↓bnd_tag, ↓out_tag, ↓seq_tag, tbnd_ok, tbnd_exc, tbnd_bad, tout_bad, tseq_bad, end_bad, tout_ok, tout_exc, tseq_nx, tseq_rt, tseq_ex, tseq_bk, tseq_ct, of_some, fin_val, fin_opd, fin_tst, end_nx, end_rt, end_ex, Opd.get, sv_imm, tru_imm, val_shr, val_own, val_own2, val_frz2, scalar, backOf, setSlot, lnt, lt, packL, isOwnL, q_turning_at_4, bop_add, a1, a2, m1, m2, lt_int, truthP, c]
        · rw [if_neg c]
          simp only [List.getD_eq_getElem?_getD] at c
          simp [execSs, execS, evalE, evalEs, evalOs, evalAs, evalIt, evalTe, evalOe, evalAnd, evalOr, getAll, argsOf, refOf, setBk, askV, peekV, readV, ↓bnd_tag, ↓out_tag, ↓seq_tag, tbnd_ok, tbnd_exc, tbnd_bad, tout_bad, tseq_bad, end_bad, tout_ok, tout_exc, tseq_nx, tseq_rt, tseq_ex, tseq_bk, tseq_ct, of_some, fin_val, fin_opd, fin_tst, end_nx, end_rt, end_ex, Opd.get, sv_imm, tru_imm, val_shr, val_own, val_own2, val_frz2, scalar, backOf, setSlot, lnt, lt, packL, isOwnL, q_turning_at_4, bop_add, a1, a2, m1, m2, lt_int, truthP, c]
      rw [List.find?_cons]
      by_cases c : ix ys (xs.getD (i + 1) 0) < ix ys (xs.getD i 0)
      · rw [if_pos c] at turn
        rw [decide_eq_true c]
        exact (congrArg (fun o : Outc => endD none (o.seq fun ρ => .rt (.shr .non) ρ)) (for_rt rfl turn)).trans rfl
      · rw [if_neg c] at turn
        rw [decide_eq_false c]
        exact (congrArg (fun o : Outc => endD none (o.seq fun ρ => .rt (.shr .non) ρ)) (for_nx rfl turn)).trans (ih (fun j hj => hi j (by simp [hj])) _)
  have e2 : ∀ ρ0, execS (gN tab k) [] ρ0 q_turning_at_5 [.shr (.lst (il xs)), .shr (.lst (il ys)), .own (.dct (dd ys 0)), .un, .un] = forL (.one 3) (fun ρ' => execSs (gN tab k) [] ρ0 q_turning_at_4 ρ') ((List.range (xs.length - 1)).map fun (i : Nat) => PV.int (0 + (i : Int))) [.shr (.lst (il xs)), .shr (.lst (il ys)), .own (.dct (dd ys 0)), .un, .un] := fun ρ0 => by
    have it : evalIt (gN tab k) (.rng1 (.bop .sub (.blt .len (.cons (.var 0) .nil)) (.cst (.int 1)))) [.shr (.lst (il xs)), .shr (.lst (il ys)), .own (.dct (dd ys 0)), .un, .un] = .ok ((List.range (xs.length - 1)).map fun (i : Nat) => PV.int (0 + (i : Int)), []) [.shr (.lst (il xs)), .shr (.lst (il ys)), .own (.dct (dd ys 0)), .un, .un] := by
      have e : ((xs.length : Int) - 1).toNat = xs.length - 1 := by omega
      have c : -(2 ^ 62) ≤ ((xs.length : Int) - 1) ∧ ((xs.length : Int) - 1) < 2 ^ 62 := by omega
      have b := b_lenl (il xs)
      rw [List.length_map] at b
      simp only [execSs, execS, evalE, evalEs, evalOs, evalAs, evalIt, evalTe, evalOe, evalAnd, evalOr, getAll, argsOf, refOf, setBk, askV, peekV, readV, ↓bnd_tag, ↓out_tag, ↓seq_tag, tbnd_ok, tbnd_exc, tbnd_bad, tout_bad, tseq_bad, end_bad, tout_ok, tout_exc, tseq_nx, tseq_rt, tseq_ex, tseq_bk, tseq_ct, of_some, fin_val, fin_opd, fin_tst, end_nx, end_rt, end_ex, Opd.get, sv_imm, tru_imm, val_shr, val_own, val_own2, val_frz2, scalar, backOf, setSlot, lnt, lt, packL, isOwnL, evalIt, evalE, b, bop_sub, c, List.getElem?_cons_zero]
      simp [execSs, execS, evalE, evalEs, evalOs, evalAs, evalIt, evalTe, evalOe, evalAnd, evalOr, getAll, argsOf, refOf, setBk, askV, peekV, readV, ↓bnd_tag, ↓out_tag, ↓seq_tag, tbnd_ok, tbnd_exc, tbnd_bad, tout_bad, tseq_bad, end_bad, tout_ok, tout_exc, tseq_nx, tseq_rt, tseq_ex, tseq_bk, tseq_ct, of_some, fin_val, fin_opd, fin_tst, end_nx, end_rt, end_ex, Opd.get, sv_imm, tru_imm, val_shr, val_own, val_own2, val_frz2, scalar, backOf, setSlot, lnt, lt, packL, isOwnL, b, bop_sub, rngPV, e, c]
      omega
    exact (ex_for it rfl).trans (bak_nil _ _)
  show endD none (execSs (gN tab k) [] [.shr (.lst (il xs)), .shr (.lst (il ys)), .un, .un, .un] d_turning_at.body [.shr (.lst (il xs)), .shr (.lst (il ys)), .un, .un, .un]) = _
  simp only [d_turning_at, one_more, no_more, e1, seq_nx, e2]
  have kk := key (List.range (xs.length - 1)) (fun i hi => by rw [List.mem_range] at hi; omega) .un
  unfold nxtV nxt
  rw [← kk]
  have ef : (fun ρ => (execS (gN tab k) [] [.shr (.lst (il xs)), .shr (.lst (il ys)), .un, .un, .un] (.ret (.cst .non)) ρ).seq fun ρ => .nx ρ) = fun ρ => .rt (.shr .non) ρ := by funext ρ; simp [execSs, execS, evalE, evalEs, evalOs, evalAs, evalIt, evalTe, evalOe, evalAnd, evalOr, getAll, argsOf, refOf, setBk, askV, peekV, readV, ↓bnd_tag, ↓out_tag, ↓seq_tag, tbnd_ok, tbnd_exc, tbnd_bad, tout_bad, tseq_bad, end_bad, tout_ok, tout_exc, tseq_nx, tseq_rt, tseq_ex, tseq_bk, tseq_ct, of_some, fin_val, fin_opd, fin_tst, end_nx, end_rt, end_ex, Opd.get, sv_imm, tru_imm, val_shr, val_own, val_own2, val_frz2, scalar, backOf, setSlot, lnt, lt, packL, isOwnL]
  rw [ef]
/-! ### exchange_way -/
theorem nxtV_some {xs ys : List Int} {i : Nat} (h : nxt xs ys = some i) : nxtV xs ys = .shr (.int i) := by unfold nxtV; rw [h]
theorem nxtV_none {xs ys : List Int} (h : nxt xs ys = none) : nxtV xs ys = .shr .non := by unfold nxtV; rw [h]
theorem tu_len {xs ys : List Int} (hn : xs.Nodup) (h : shortL xs) : (tu xs ys).length ≤ 400 := by
  rw [← tb_sort hn, List.length_mergeSort]
  exact tb_len h
theorem swp_len {xs ys : List Int} {i : Nat} (hn : xs.Nodup) (h : nxt xs ys = some i) : (swp xs i).length = xs.length := (step_ok hn h).1.length_eq
theorem il_swp (xs : List Int) (i : Nat) : (il xs).take i ++ (.int (xs.getD (i + 1) 0) :: .int (xs.getD i 0) :: (il xs).drop (i + 2)) = il (swp xs i) := by
  simp [swp, il, List.map_take, List.map_drop]
theorem cut_from2 (xs : List Int) {i : Nat} (h : i + 1 < xs.length) : cutP (il xs) (some ((i : Int) + 2)) none = (il xs).drop (i + 2) := by
  have := cut_from (il xs) (i := i + 2) (by simp; omega)
  rw [show ((i + 2 : Nat) : Int) = (i : Int) + 2 by omega] at this
  exact this
theorem way_turn (k : Nat) (ρ0 : Rho) {X : SV} {ys cur : List Int} {acc : List PV} {i : Nat} (p : cur.Perm ys) (hn : ys.Nodup) (h : shortL ys) (hi : nxt cur ys = some i) (ha : acc.length < 16777216) (s2 : SV) (hs2 : s2 = .shr (.lst (il cur)) ) :
    execSs (gN tab (k + 1)) [] ρ0 q_exchange_way_2 [X, .shr (.lst (il ys)), s2, .own2 (.lst acc), .shr (.int i)] = .nx [X, .shr (.lst (il ys)), .shr (.lst (il (swp cur i))), .own2 (.lst (acc ++ [.lst (il (swp cur i))])), nxtV (swp cur i) ys] := by
  subst hs2
  have h' : ys.length ≤ 20 := h
  have hc : cur.Nodup := p.nodup_iff.mpr hn
  have hlt := (nxt_some hi).1
  have hl : cur.length = ys.length := p.length_eq
  have c := c6 k ((step_ok hc hi).1.trans p) hn h
  have a1 := at_il1 hlt
  have a2 := at_il (show i < cur.length by omega)
  have t1 := cut_to (il cur) (i := i) (by simp; omega)
  have t2 := cut_from2 cur hlt
  have sw := il_swp cur i
  have e1 : ∀ ρ0, execS (gN tab (k + 1)) [] ρ0 (.set 2 (.lst false (.star (.slc (.var 2) .no (.som (.var 4))) (.cons (.idx (.var 2) (.bop .add (.var 4) (.cst (.int 1)))) (.cons (.idx (.var 2) (.var 4)) (.star (.slc (.var 2) (.som (.bop .add (.var 4) (.cst (.int 2)))) .no) .nil)))))) [X, .shr (.lst (il ys)), .shr (.lst (il cur)), .own2 (.lst acc), .shr (.int i)]
      = .nx [X, .shr (.lst (il ys)), .own (.lst (il (swp cur i))), .own2 (.lst acc), .shr (.int i)] := by
    intro ρ0
    have lz : i ≤ big ∧ True := ⟨by unfold big; omega, trivial⟩
    have ll : ((il cur).take i).length + (((il cur).drop (i + 2)).length + 2) ≤ big := by simp [big]; omega
    rw [← sw]
    simp only [List.getD_eq_getElem?_getD] at a1 a2 ⊢
    simp only [execSs, execS, evalE, evalEs, evalOs, evalAs, evalIt, evalTe, evalOe, evalAnd, evalOr, getAll, argsOf, refOf, setBk, askV, peekV, readV, ↓bnd_tag, ↓out_tag, ↓seq_tag, tbnd_ok, tbnd_exc, tbnd_bad, tout_bad, tseq_bad, end_bad, tout_ok, tout_exc, tseq_nx, tseq_rt, tseq_ex, tseq_bk, tseq_ct, of_some, fin_val, fin_opd, fin_tst, end_nx, end_rt, end_ex, Opd.get, sv_imm, tru_imm, val_shr, val_own, val_own2, val_frz2, scalar, backOf, setSlot, lnt, lt, packL, isOwnL, slcPV, bop_add, a1, a2, t1, t2, List.getElem?_cons_succ, List.getElem?_cons_zero, Option.map_some, List.length_append, List.length_cons, List.length_map]
    simp [execSs, execS, evalE, evalEs, evalOs, evalAs, evalIt, evalTe, evalOe, evalAnd, evalOr, getAll, argsOf, refOf, setBk, askV, peekV, readV, ↓bnd_tag, ↓out_tag, ↓seq_tag, tbnd_ok, tbnd_exc, tbnd_bad, tout_bad, tseq_bad, end_bad, tout_ok, tout_exc, tseq_nx, tseq_rt, tseq_ex, tseq_bk, tseq_ct, of_some, fin_val, fin_opd, fin_tst, end_nx, end_rt, end_ex, Opd.get, sv_imm, tru_imm, val_shr, val_own, val_own2, val_frz2, scalar, backOf, setSlot, lnt, lt, packL, isOwnL, slcPV, bop_add, a1, a2, t1, t2, big]
    rw [if_pos (by omega), show (SV.val ∘ SV.shr ∘ PV.int) = PV.int from rfl]
    simp [execSs, execS, evalE, evalEs, evalOs, evalAs, evalIt, evalTe, evalOe, evalAnd, evalOr, getAll, argsOf, refOf, setBk, askV, peekV, readV, ↓bnd_tag, ↓out_tag, ↓seq_tag, tbnd_ok, tbnd_exc, tbnd_bad, tout_bad, tseq_bad, end_bad, tout_ok, tout_exc, tseq_nx, tseq_rt, tseq_ex, tseq_bk, tseq_ct, of_some, fin_val, fin_opd, fin_tst, end_nx, end_rt, end_ex, Opd.get, sv_imm, tru_imm, val_shr, val_own, val_own2, val_frz2, scalar, backOf, setSlot, lnt, lt, packL, isOwnL]
  have e2 : ∀ ρ0, execS (gN tab (k + 1)) [] ρ0 (.app true 3 (.blt .list (.cons (.var 2) .nil))) [X, .shr (.lst (il ys)), .own (.lst (il (swp cur i))), .own2 (.lst acc), .shr (.int i)] = .nx [X, .shr (.lst (il ys)), .own (.lst (il (swp cur i))), .own2 (.lst (acc ++ [.lst (il (swp cur i))])), .shr (.int i)] := by
    intro ρ0
    simp [execSs, execS, evalE, evalEs, evalOs, evalAs, evalIt, evalTe, evalOe, evalAnd, evalOr, getAll, argsOf, refOf, setBk, askV, peekV, readV, ↓bnd_tag, ↓out_tag, ↓seq_tag, tbnd_ok, tbnd_exc, tbnd_bad, tout_bad, tseq_bad, end_bad, tout_ok, tout_exc, tseq_nx, tseq_rt, tseq_ex, tseq_bk, tseq_ct, of_some, fin_val, fin_opd, fin_tst, end_nx, end_rt, end_ex, Opd.get, sv_imm, tru_imm, val_shr, val_own, val_own2, val_frz2, scalar, backOf, setSlot, lnt, lt, packL, isOwnL, isLstAt, b_listl, appO, big, ha]
  have e3 : ∀ ρ0, execS (gN tab (k + 1)) [] ρ0 (.set 4 (.call false 6 (.cons (.var 2) (.cons (.var 1) .nil)))) [X, .shr (.lst (il ys)), .own (.lst (il (swp cur i))), .own2 (.lst (acc ++ [.lst (il (swp cur i))])), .shr (.int i)] = .nx [X, .shr (.lst (il ys)), .shr (.lst (il (swp cur i))), .own2 (.lst (acc ++ [.lst (il (swp cur i))])), nxtV (swp cur i) ys] := by
    intro ρ0
    simp [execSs, execS, evalE, evalEs, evalOs, evalAs, evalIt, evalTe, evalOe, evalAnd, evalOr, getAll, argsOf, refOf, setBk, askV, peekV, readV, ↓bnd_tag, ↓out_tag, ↓seq_tag, tbnd_ok, tbnd_exc, tbnd_bad, tout_bad, tseq_bad, end_bad, tout_ok, tout_exc, tseq_nx, tseq_rt, tseq_ex, tseq_bk, tseq_ct, of_some, fin_val, fin_opd, fin_tst, end_nx, end_rt, end_ex, Opd.get, sv_imm, tru_imm, val_shr, val_own, val_own2, val_frz2, scalar, backOf, setSlot, lnt, lt, packL, isOwnL, c]
  simp only [q_exchange_way_2, one_more, no_more, e1, e2, e3, seq_nx]
abbrev ol (o : List Int) : PV := .lst (il o)
theorem chn_cons (ys : List Int) (m : Nat) (z : List Int) : chn ys m z = z :: (chn ys m z).tail := by cases m <;> rfl
abbrev wT (g : Gm) : Rho → Rr Bool := fun ρ => (evalE g .tst q_exchange_way_1 ρ).bnd fun o ρ => .ok o.tru ρ
theorem way_loop (k : Nat) (ρ0 : Rho) {X : SV} {ys : List Int} (hn : ys.Nodup) (h : shortL ys) : ∀ (m : Nat) (cur : List Int) (acc : List PV) (fu : Nat), cur.Perm ys → (tu cur ys).length = m → m < fu → acc.length + m < 16777216 →
    ∃ s2, whlN (wT (gN tab (k + 1))) (fun ρ => execSs (gN tab (k + 1)) [] ρ0 q_exchange_way_2 ρ) fu [X, .shr (.lst (il ys)), .shr (.lst (il cur)), .own2 (.lst acc), nxtV cur ys] = .nx [X, .shr (.lst (il ys)), s2, .own2 (.lst (acc ++ (chn ys m cur).tail.map ol)), .shr .non]
  | 0, cur, acc, fu + 1, p, ht, hf, ha => by
    have e := nxtV_none (nxt_of_tu0 (p.nodup_iff.mpr hn) ht)
    refine ⟨.shr (.lst (il cur)), ?_⟩
    rw [e]
    have t : wT (gN tab (k + 1)) [X, .shr (.lst (il ys)), .shr (.lst (il cur)), .own2 (.lst acc), .shr .non] = .ok false [X, .shr (.lst (il ys)), .shr (.lst (il cur)), .own2 (.lst acc), .shr .non] := by
      simp [wT, q_exchange_way_1, execSs, execS, evalE, evalEs, evalOs, evalAs, evalIt, evalTe, evalOe, evalAnd, evalOr, getAll, argsOf, refOf, setBk, askV, peekV, readV, ↓bnd_tag, ↓out_tag, ↓seq_tag, tbnd_ok, tbnd_exc, tbnd_bad, tout_bad, tseq_bad, end_bad, tout_ok, tout_exc, tseq_nx, tseq_rt, tseq_ex, tseq_bk, tseq_ct, of_some, fin_val, fin_opd, fin_tst, end_nx, end_rt, end_ex, Opd.get, sv_imm, tru_imm, val_shr, val_own, val_own2, val_frz2, scalar, backOf, setSlot, lnt, lt, packL, isOwnL, truthP]
    unfold whlN
    rw [t]
    simp [execSs, execS, evalE, evalEs, evalOs, evalAs, evalIt, evalTe, evalOe, evalAnd, evalOr, getAll, argsOf, refOf, setBk, askV, peekV, readV, ↓bnd_tag, ↓out_tag, ↓seq_tag, tbnd_ok, tbnd_exc, tbnd_bad, tout_bad, tseq_bad, end_bad, tout_ok, tout_exc, tseq_nx, tseq_rt, tseq_ex, tseq_bk, tseq_ct, of_some, fin_val, fin_opd, fin_tst, end_nx, end_rt, end_ex, Opd.get, sv_imm, tru_imm, val_shr, val_own, val_own2, val_frz2, scalar, backOf, setSlot, lnt, lt, packL, isOwnL, chn]
  | m + 1, cur, acc, fu + 1, p, ht, hf, ha => by
    have hc := p.nodup_iff.mpr hn
    obtain ⟨i, hi⟩ := nxt_of_tu p hc ht
    have e := nxtV_some hi
    have st := step_ok hc hi
    obtain ⟨s2, ih⟩ := way_loop k ρ0 (X := X) hn h m (swp cur i) (acc ++ [ol (swp cur i)]) fu (st.1.trans p) (by omega) (by omega) (by simp; omega)
    refine ⟨s2, ?_⟩
    rw [e]
    have t : wT (gN tab (k + 1)) [X, .shr (.lst (il ys)), .shr (.lst (il cur)), .own2 (.lst acc), .shr (.int i)] = .ok true [X, .shr (.lst (il ys)), .shr (.lst (il cur)), .own2 (.lst acc), .shr (.int i)] := by
      simp [wT, q_exchange_way_1, execSs, execS, evalE, evalEs, evalOs, evalAs, evalIt, evalTe, evalOe, evalAnd, evalOr, getAll, argsOf, refOf, setBk, askV, peekV, readV, ↓bnd_tag, ↓out_tag, ↓seq_tag, tbnd_ok, tbnd_exc, tbnd_bad, tout_bad, tseq_bad, end_bad, tout_ok, tout_exc, tseq_nx, tseq_rt, tseq_ex, tseq_bk, tseq_ct, of_some, fin_val, fin_opd, fin_tst, end_nx, end_rt, end_ex, Opd.get, sv_imm, tru_imm, val_shr, val_own, val_own2, val_frz2, scalar, backOf, setSlot, lnt, lt, packL, isOwnL, truthP]
    have tn := way_turn k ρ0 (X := X) p hn h hi (acc := acc) (by omega) _ rfl
    unfold whlN
    rw [t]
    simp only [out_ok, if_true, tn]
    rw [ih]
    have es : stp ys cur = swp cur i := by unfold stp; rw [hi]
    have ec : (chn ys (m + 1) cur).tail = swp cur i :: (chn ys m (swp cur i)).tail := by
      show chn ys m (stp ys cur) = _
      rw [es]; exact chn_cons ys m _
    rw [ec]
    simp
theorem c7 (k : Nat) (t : Bool) {n : Nat} {xs ys : List Int} (hx : Ord n xs) (hy : Ord n ys) (hn : n ≤ 20) : (gN tab (k + 3)).call 7 [.shr (sq t xs), .shr (.lst (il ys))] = .ok (.own2 (.lst ((chn ys (tu xs ys).length xs).map ol))) .un := by
  have h1 := c1 k xs.length [(t, xs), (false, ys)] (by omega) (by rw [hx.len]; omega)
  have e : chk (↑xs.length) [(t, xs), (false, ys)] = .ok (.shr .non) .un := by
    unfold chk; rw [hx.len]; simp [List.find?_cons, hx.is, hy.is]
  rw [e] at h1
  have h6 := c6 (k + 1) (hx.perm hy) hy.nd (hy.short hn)
  have hl := tu_len (ys := ys) hx.nd (hx.short hn)
  simp only [sqs, List.map_cons, List.map_nil, sq, Bool.false_eq_true, if_false] at h1
  obtain ⟨s2, wl⟩ := way_loop (k + 1) [.shr (sq t xs), .shr (.lst (il ys)), .un, .un, .un] (X := .shr (sq t xs)) hy.nd (hy.short hn) _ xs [ol xs] fuel (hx.perm hy) rfl (by unfold fuel; omega) (by simp; omega)
  rw [cl]
  show runD (gN tab (k + 2)) d_exchange_way _ = _
  rw [runD_eq rfl]
  have ew : execS (gN tab (k + 2)) [] [.shr (sq t xs), .shr (.lst (il ys)), .un, .un, .un] q_exchange_way_3 [.shr (sq t xs), .shr (.lst (il ys)), .shr (.lst (il xs)), .own2 (.lst [ol xs]), nxtV xs ys] = _ := wl
  have e1 : ∀ ρ0, execS (gN tab (k + 2)) [] ρ0 (.exp (.call false 1 (.cons (.blt .len (.cons (.var 0) .nil)) (.cons (.lst false (.cons (.var 0) (.cons (.var 1) .nil))) .nil)))) [.shr (sq t xs), .shr (.lst (il ys)), .un, .un, .un] = .nx [.shr (sq t xs), .shr (.lst (il ys)), .un, .un, .un] := by
    intro ρ0
    have h1' : (gN tab (k + 2)).call 1 [.shr (.int xs.length), .shr (.lst [sq t xs, .lst (il ys)])] = .ok (.shr .non) .un := h1
    simp [execSs, execS, evalE, evalEs, evalOs, evalAs, evalIt, evalTe, evalOe, evalAnd, evalOr, getAll, argsOf, refOf, setBk, askV, peekV, readV, ↓bnd_tag, ↓out_tag, ↓seq_tag, tbnd_ok, tbnd_exc, tbnd_bad, tout_bad, tseq_bad, end_bad, tout_ok, tout_exc, tseq_nx, tseq_rt, tseq_ex, tseq_bk, tseq_ct, of_some, fin_val, fin_opd, fin_tst, end_nx, end_rt, end_ex, Opd.get, sv_imm, tru_imm, val_shr, val_own, val_own2, val_frz2, scalar, backOf, setSlot, lnt, lt, packL, isOwnL, b_len, h1', big]
  have e2 : ∀ ρ0, execS (gN tab (k + 2)) [] ρ0 (.set 2 (.blt .list (.cons (.var 0) .nil))) [.shr (sq t xs), .shr (.lst (il ys)), .un, .un, .un] = .nx [.shr (sq t xs), .shr (.lst (il ys)), .own (.lst (il xs)), .un, .un] := by
    intro ρ0; simp [execSs, execS, evalE, evalEs, evalOs, evalAs, evalIt, evalTe, evalOe, evalAnd, evalOr, getAll, argsOf, refOf, setBk, askV, peekV, readV, ↓bnd_tag, ↓out_tag, ↓seq_tag, tbnd_ok, tbnd_exc, tbnd_bad, tout_bad, tseq_bad, end_bad, tout_ok, tout_exc, tseq_nx, tseq_rt, tseq_ex, tseq_bk, tseq_ct, of_some, fin_val, fin_opd, fin_tst, end_nx, end_rt, end_ex, Opd.get, sv_imm, tru_imm, val_shr, val_own, val_own2, val_frz2, scalar, backOf, setSlot, lnt, lt, packL, isOwnL, b_list]
  have e3 : ∀ ρ0, execS (gN tab (k + 2)) [] ρ0 (.set 3 (.lst true (.cons (.blt .list (.cons (.var 0) .nil)) .nil))) [.shr (sq t xs), .shr (.lst (il ys)), .own (.lst (il xs)), .un, .un] = .nx [.shr (sq t xs), .shr (.lst (il ys)), .own (.lst (il xs)), .own2 (.lst [ol xs]), .un] := by
    intro ρ0; simp [execSs, execS, evalE, evalEs, evalOs, evalAs, evalIt, evalTe, evalOe, evalAnd, evalOr, getAll, argsOf, refOf, setBk, askV, peekV, readV, ↓bnd_tag, ↓out_tag, ↓seq_tag, tbnd_ok, tbnd_exc, tbnd_bad, tout_bad, tseq_bad, end_bad, tout_ok, tout_exc, tseq_nx, tseq_rt, tseq_ex, tseq_bk, tseq_ct, of_some, fin_val, fin_opd, fin_tst, end_nx, end_rt, end_ex, Opd.get, sv_imm, tru_imm, val_shr, val_own, val_own2, val_frz2, scalar, backOf, setSlot, lnt, lt, packL, isOwnL, b_list, big]
  have e4 : ∀ ρ0, execS (gN tab (k + 2)) [] ρ0 (.set 4 (.call false 6 (.cons (.var 2) (.cons (.var 1) .nil)))) [.shr (sq t xs), .shr (.lst (il ys)), .own (.lst (il xs)), .own2 (.lst [ol xs]), .un] = .nx [.shr (sq t xs), .shr (.lst (il ys)), .shr (.lst (il xs)), .own2 (.lst [ol xs]), nxtV xs ys] := by
    intro ρ0; simp [execSs, execS, evalE, evalEs, evalOs, evalAs, evalIt, evalTe, evalOe, evalAnd, evalOr, getAll, argsOf, refOf, setBk, askV, peekV, readV, ↓bnd_tag, ↓out_tag, ↓seq_tag, tbnd_ok, tbnd_exc, tbnd_bad, tout_bad, tseq_bad, end_bad, tout_ok, tout_exc, tseq_nx, tseq_rt, tseq_ex, tseq_bk, tseq_ct, of_some, fin_val, fin_opd, fin_tst, end_nx, end_rt, end_ex, Opd.get, sv_imm, tru_imm, val_shr, val_own, val_own2, val_frz2, scalar, backOf, setSlot, lnt, lt, packL, isOwnL, h6]
  show endD none (execSs (gN tab (k + 2)) [] [.shr (sq t xs), .shr (.lst (il ys)), .un, .un, .un] d_exchange_way.body [.shr (sq t xs), .shr (.lst (il ys)), .un, .un, .un]) = _
  simp only [d_exchange_way, one_more, no_more, e1, e2, e3, e4, ew, seq_nx]
  have ec := chn_cons ys (tu xs ys).length xs
  rw [ec]
  simp [execSs, execS, evalE, evalEs, evalOs, evalAs, evalIt, evalTe, evalOe, evalAnd, evalOr, getAll, argsOf, refOf, setBk, askV, peekV, readV, ↓bnd_tag, ↓out_tag, ↓seq_tag, tbnd_ok, tbnd_exc, tbnd_bad, tout_bad, tseq_bad, end_bad, tout_ok, tout_exc, tseq_nx, tseq_rt, tseq_ex, tseq_bk, tseq_ct, of_some, fin_val, fin_opd, fin_tst, end_nx, end_rt, end_ex, Opd.get, sv_imm, tru_imm, val_shr, val_own, val_own2, val_frz2, scalar, backOf, setSlot, lnt, lt, packL, isOwnL]
end K28
end KL
end
section
set_option linter.all false
set_option maxRecDepth 100000
/-! K28R: what the defs of k28 compute: the law's own. -/
namespace KL
namespace K28
open PySem
structure Pot (a b : Int) : Prop where
  a0 : 0 ≤ a
  a1 : a < 2147483647
  b0 : 0 ≤ b
abbrev pv (a b : Int) : PV := .lst [.int a, .int b]
theorem c8 (k : Nat) (ns : List Int) (j : Nat) : ∃ a b, Pot a b ∧ (gN tab (k + 1)).call 8 [.shr (.scr ns), .shr (.int j)] = .ok (.own (pv a b)) .un := by
  rw [cl]
  show ∃ a b, Pot a b ∧ runD (gN tab k) d__law_pot _ = _
  rw [runD_eq rfl]
  -- the number
  have num : ∃ m : Int, 0 ≤ m ∧ ∀ ρ0 ss, execSs (gN tab k) [] ρ0 (.cons (.set 2 (.cst (.int 0))) (.cons (.ife (.cmp .lt (.var 1) (.blt .len (.cons (.var 0) .nil))) (.cons (.set 2 (.blt .abs (.cons (.idx (.var 0) (.var 1)) .nil))) .nil) .nil) ss)) [.shr (.scr ns), .shr (.int j), .un]
      = execSs (gN tab k) [] ρ0 ss [.shr (.scr ns), .shr (.int j), .shr (.int m)] := by
    by_cases h : j < ns.length
    · refine ⟨if ns[j] < 0 then -ns[j] else ns[j], by split <;> omega, fun ρ0 ss => ?_⟩
      have i1 : idxPV (.scr ns) (.int j) = some (.int ns[j]) := by
        show (atP ns (j : Int)).map PV.int = _
        unfold atP
        rw [if_pos (by omega)]
        simp [h]
      have h' : (j : Int) < ns.length := by omega
      simp only [one_more]
      simp [execSs, execS, evalE, evalEs, evalOs, evalAs, evalIt, evalTe, evalOe, evalAnd, evalOr, getAll, argsOf, refOf, setBk, askV, peekV, readV, ↓bnd_tag, ↓out_tag, ↓seq_tag, tbnd_ok, tbnd_exc, tbnd_bad, tout_bad, tseq_bad, end_bad, tout_ok, tout_exc, tseq_nx, tseq_rt, tseq_ex, tseq_bk, tseq_ct, of_some, fin_val, fin_opd, fin_tst, end_nx, end_rt, end_ex, Opd.get, sv_imm, tru_imm, val_shr, val_own, val_own2, val_frz2, scalar, backOf, setSlot, lnt, lt, packL, isOwnL, b_lens, lt_int, truthP, h', h, i1, b_abs]
    · refine ⟨0, Int.le_refl 0, fun ρ0 ss => ?_⟩
      have h' : ¬ (j : Int) < ns.length := by omega
      simp only [one_more]
      simp [execSs, execS, evalE, evalEs, evalOs, evalAs, evalIt, evalTe, evalOe, evalAnd, evalOr, getAll, argsOf, refOf, setBk, askV, peekV, readV, ↓bnd_tag, ↓out_tag, ↓seq_tag, tbnd_ok, tbnd_exc, tbnd_bad, tout_bad, tseq_bad, end_bad, tout_ok, tout_exc, tseq_nx, tseq_rt, tseq_ex, tseq_bk, tseq_ct, of_some, fin_val, fin_opd, fin_tst, end_nx, end_rt, end_ex, Opd.get, sv_imm, tru_imm, val_shr, val_own, val_own2, val_frz2, scalar, backOf, setSlot, lnt, lt, packL, isOwnL, b_lens, lt_int, truthP, h', h]
  obtain ⟨m, hm, num⟩ := num
  have pw : bopPV .pow (.int 10) (.int 18) = some (.shr (.int 1000000000000000000)) := by decide
  show ∃ a b, Pot a b ∧ endD none (execSs (gN tab k) [] [.shr (.scr ns), .shr (.int j), .un] d__law_pot.body [.shr (.scr ns), .shr (.int j), .un]) = _
  simp only [d__law_pot, num]
  by_cases hc : m < 1000000000000000000
  · refine ⟨m % 2147483647, 0, ⟨Int.emod_nonneg _ (by decide), Int.emod_lt_of_pos _ (by decide), Int.le_refl 0⟩, ?_⟩
    have md := bop_mod (i := m) (j := 2147483647) (by decide)
    simp [execSs, execS, evalE, evalEs, evalOs, evalAs, evalIt, evalTe, evalOe, evalAnd, evalOr, getAll, argsOf, refOf, setBk, askV, peekV, readV, ↓bnd_tag, ↓out_tag, ↓seq_tag, tbnd_ok, tbnd_exc, tbnd_bad, tout_bad, tseq_bad, end_bad, tout_ok, tout_exc, tseq_nx, tseq_rt, tseq_ex, tseq_bk, tseq_ct, of_some, fin_val, fin_opd, fin_tst, end_nx, end_rt, end_ex, Opd.get, sv_imm, tru_imm, val_shr, val_own, val_own2, val_frz2, scalar, backOf, setSlot, lnt, lt, packL, isOwnL, pw, lt_int, truthP, hc, b_int, md, big, pv]
  · refine ⟨0, m - 1000000000000000000, ⟨Int.le_refl 0, by decide, by omega⟩, ?_⟩
    simp [execSs, execS, evalE, evalEs, evalOs, evalAs, evalIt, evalTe, evalOe, evalAnd, evalOr, getAll, argsOf, refOf, setBk, askV, peekV, readV, ↓bnd_tag, ↓out_tag, ↓seq_tag, tbnd_ok, tbnd_exc, tbnd_bad, tout_bad, tseq_bad, end_bad, tout_ok, tout_exc, tseq_nx, tseq_rt, tseq_ex, tseq_bk, tseq_ct, of_some, fin_val, fin_opd, fin_tst, end_nx, end_rt, end_ex, Opd.get, sv_imm, tru_imm, val_shr, val_own, val_own2, val_frz2, scalar, backOf, setSlot, lnt, lt, packL, isOwnL, pw, lt_int, truthP, hc, bop_sub, big, pv]
theorem ix0 (a b : Int) : idxPV (pv a b) (.int 0) = some (.int a) := rfl
theorem ix1 (a b : Int) : idxPV (pv a b) (.int 1) = some (.int b) := rfl
theorem c9 (k : Nat) {a b n : Int} (p : Pot a b) (hn : 0 < n) : ∃ v a' b', 0 ≤ v ∧ v < n ∧ Pot a' b' ∧ (gN tab (k + 1)).call 9 [.own (pv a b), .shr (.int n)] = .ok (.shr (.int v)) (.own (pv a' b')) := by
  rw [cl]
  show ∃ v a' b', 0 ≤ v ∧ v < n ∧ Pot a' b' ∧ runD (gN tab k) d__law_draw _ = _
  rw [runD_eq rfl]
  show ∃ v a' b', 0 ≤ v ∧ v < n ∧ Pot a' b' ∧ endD (some 0) (execSs (gN tab k) [0] [.own (pv a b), .shr (.int n), .un] d__law_draw.body [.own (pv a b), .shr (.int n), .un]) = _
  by_cases ha : a = 0
  · subst ha
    refine ⟨b % 1000 % n, 0, b / 1000, Int.emod_nonneg _ (by omega), Int.emod_lt_of_pos _ hn, ⟨Int.le_refl 0, by decide, Int.ediv_nonneg p.b0 (by decide)⟩, ?_⟩
    have m1 := bop_mod (i := b) (j := 1000) (by decide)
    have m2 := bop_mod (i := b % 1000) hn
    have m3 := bop_fdiv (i := b) (j := 1000) (by decide) (by decide)
    simp [execSs, execS, evalE, evalEs, evalOs, evalAs, evalIt, evalTe, evalOe, evalAnd, evalOr, getAll, argsOf, refOf, setBk, askV, peekV, readV, ↓bnd_tag, ↓out_tag, ↓seq_tag, tbnd_ok, tbnd_exc, tbnd_bad, tout_bad, tseq_bad, end_bad, tout_ok, tout_exc, tseq_nx, tseq_rt, tseq_ex, tseq_bk, tseq_ct, of_some, fin_val, fin_opd, fin_tst, end_nx, end_rt, end_ex, Opd.get, sv_imm, tru_imm, val_shr, val_own, val_own2, val_frz2, scalar, backOf, setSlot, lnt, lt, packL, isOwnL, d__law_draw, eq_int, ix0, ix1, truthP, b_int, m1, m2, m3, isOwnAt, setOwn, setIx]
  · refine ⟨_, a * 48271 % 2147483647, b, Int.emod_nonneg _ (by omega), Int.emod_lt_of_pos (a * 48271 % 2147483647 * (a * 48271 % 2147483647) % 2147483629) hn, ⟨Int.emod_nonneg _ (by decide), Int.emod_lt_of_pos _ (by decide), p.b0⟩, ?_⟩
    have a0 := p.a0
    have a1 := p.a1
    have m1 := bop_mul (i := a) (j := 48271) (by omega) (by omega)
    have m2 := bop_mod (i := a * 48271) (j := 2147483647) (by decide)
    have q0 : 0 ≤ a * 48271 % 2147483647 := Int.emod_nonneg _ (by decide)
    have q1 : a * 48271 % 2147483647 < 2147483647 := Int.emod_lt_of_pos _ (by decide)
    generalize hq : a * 48271 % 2147483647 = q at *
    have m3 := bop_mul (i := q) (j := q) (by omega) (by omega)
    have m4 := bop_mod (i := q * q) (j := 2147483629) (by decide)
    have m5 := bop_mod (i := q * q % 2147483629) hn
    simp [execSs, execS, evalE, evalEs, evalOs, evalAs, evalIt, evalTe, evalOe, evalAnd, evalOr, getAll, argsOf, refOf, setBk, askV, peekV, readV, ↓bnd_tag, ↓out_tag, ↓seq_tag, tbnd_ok, tbnd_exc, tbnd_bad, tout_bad, tseq_bad, end_bad, tout_ok, tout_exc, tseq_nx, tseq_rt, tseq_ex, tseq_bk, tseq_ct, of_some, fin_val, fin_opd, fin_tst, end_nx, end_rt, end_ex, Opd.get, sv_imm, tru_imm, val_shr, val_own, val_own2, val_frz2, scalar, backOf, setSlot, lnt, lt, packL, isOwnL, d__law_draw, eq_int, ix0, truthP, b_int, ha, m1, m2, hq, m3, m4, m5, isOwnAt, setOwn, setIx]
theorem cut_at (xs : List Int) {v : Int} (h0 : 0 ≤ v) (h1 : v ≤ xs.length) : cutP (il xs) none (some v) = il (xs.take v.toNat) ∧ cutP (il xs) (some v) none = il (xs.drop v.toNat) := by
  obtain ⟨m, rfl⟩ : ∃ m : Nat, v = m := ⟨v.toNat, by omega⟩
  have hl : m ≤ (il xs).length := by simp; omega
  constructor
  · rw [cut_to _ hl]; simp [il, List.map_take]
  · rw [cut_from _ hl]; simp [il, List.map_drop]
theorem lined_loop (k : Nat) (ρ0 : Rho) {N : SV} : ∀ {ws line : List Int} {a b : Int} (s3 s4 : SV), Pot a b → line.length + ws.length ≤ 20 → ∃ a' b' line' s3' s4', Pot a' b' ∧ line'.Perm (line ++ ws) ∧
    forL (.one 3) (fun ρ' => execSs (gN tab (k + 1)) [0] ρ0 q__law_lined_1 ρ') (il ws) [.own (pv a b), N, .own (.lst (il line)), s3, s4] = .nx [.own (pv a' b'), N, .own (.lst (il line')), s3', s4']
  | [], line, a, b, s3, s4, p, _ => ⟨a, b, line, s3, s4, p, by simp, rfl⟩
  | w :: ws, line, a, b, s3, s4, p, h => by
    simp only [List.length_cons] at h
    obtain ⟨v, a1, b1, v0, v1, p1, e⟩ := c9 k (n := (line.length : Int) + 1) p (by omega)
    obtain ⟨t1, t2⟩ := cut_at line v0 (by omega)
    let line1 : List Int := line.take v.toNat ++ [w] ++ line.drop v.toNat
    have hp : line1.Perm (line ++ [w]) := by
      have q : (line.take v.toNat ++ (w :: line.drop v.toNat)).Perm (w :: (line.take v.toNat ++ line.drop v.toNat)) := List.perm_middle
      rw [List.take_append_drop] at q
      have q2 : (line ++ [w]).Perm (w :: line) := List.perm_append_singleton w line
      show (line.take v.toNat ++ [w] ++ line.drop v.toNat).Perm _
      rw [List.append_assoc]
      exact q.trans q2.symm
    have bl := b_lenl (il line)
    rw [List.length_map] at bl
    have cc1 := bop_cat (xs := il (line.take v.toNat)) (ys := [.int w]) (by simp; omega)
    have cc2 := bop_cat (xs := il (line.take v.toNat) ++ [.int w]) (ys := il (line.drop v.toNat)) (by simp; omega)
    have el : il (line.take v.toNat) ++ [PV.int w] ++ il (line.drop v.toNat) = il line1 := by simp [line1, il]
    rw [el] at cc2
    have turn : execSs (gN tab (k + 1)) [0] ρ0 q__law_lined_1 [.own (pv a b), N, .own (.lst (il line)), .shr (.int w), s4] = .nx [.own (pv a1 b1), N, .own (.lst (il line1)), .shr (.int w), .shr (.int v)] := by
      have f1 : ∀ ρ0, execS (gN tab (k + 1)) [0] ρ0 (.set 4 (.call false 9 (.cons (.var 0) (.cons (.bop .add (.blt .len (.cons (.var 2) .nil)) (.cst (.int 1))) .nil)))) [.own (pv a b), N, .own (.lst (il line)), .shr (.int w), s4] = .nx [.own (pv a1 b1), N, .own (.lst (il line)), .shr (.int w), .shr (.int v)] := by
        intro ρ0
        simp [execSs, execS, evalE, evalEs, evalOs, evalAs, evalIt, evalTe, evalOe, evalAnd, evalOr, getAll, argsOf, refOf, setBk, askV, peekV, readV, ↓bnd_tag, ↓out_tag, ↓seq_tag, tbnd_ok, tbnd_exc, tbnd_bad, tout_bad, tseq_bad, end_bad, tout_ok, tout_exc, tseq_nx, tseq_rt, tseq_ex, tseq_bk, tseq_ct, of_some, fin_val, fin_opd, fin_tst, end_nx, end_rt, end_ex, Opd.get, sv_imm, tru_imm, val_shr, val_own, val_own2, val_frz2, scalar, backOf, setSlot, lnt, lt, packL, isOwnL, bl, bop_add, e]
      have f2 : ∀ ρ0, execS (gN tab (k + 1)) [0] ρ0 (.set 2 (.bop .add (.bop .add (.slc (.var 2) .no (.som (.var 4))) (.lst false (.cons (.var 3) .nil))) (.slc (.var 2) (.som (.var 4)) .no))) [.own (pv a1 b1), N, .own (.lst (il line)), .shr (.int w), .shr (.int v)] = .nx [.own (pv a1 b1), N, .own (.lst (il line1)), .shr (.int w), .shr (.int v)] := by
        intro ρ0
        simp only [il] at cc1 cc2 t1 t2 el ⊢
        simp [-List.map_append, -List.map_take, -List.map_drop, execSs, execS, evalE, evalEs, evalOs, evalAs, evalIt, evalTe, evalOe, evalAnd, evalOr, getAll, argsOf, refOf, setBk, askV, peekV, readV, ↓bnd_tag, ↓out_tag, ↓seq_tag, tbnd_ok, tbnd_exc, tbnd_bad, tout_bad, tseq_bad, end_bad, tout_ok, tout_exc, tseq_nx, tseq_rt, tseq_ex, tseq_bk, tseq_ct, of_some, fin_val, fin_opd, fin_tst, end_nx, end_rt, end_ex, Opd.get, sv_imm, tru_imm, val_shr, val_own, val_own2, val_frz2, scalar, backOf, setSlot, lnt, lt, packL, isOwnL, slcPV, t1, t2, cc1, cc2, big]
      simp only [q__law_lined_1, one_more, no_more, f1, f2, seq_nx]
    obtain ⟨a2, b2, line2, s3', s4', p2, hp2, r⟩ := lined_loop k ρ0 (N := N) (ws := ws) (line := line1) (.shr (.int w)) (.shr (.int v)) p1 (by rw [hp.length_eq]; simp; omega)
    refine ⟨a2, b2, line2, s3', s4', p2, hp2.trans ?_, (for_nx rfl turn).trans r⟩
    have := List.Perm.append_right ws hp
    simpa using this
theorem c10 (k : Nat) {a b : Int} {n : Nat} (p : Pot a b) (hn : n ≤ 20) : ∃ line a' b', Ord n line ∧ Pot a' b' ∧ (gN tab (k + 2)).call 10 [.own (pv a b), .shr (.int n)] = .ok (.own (.lst (il line))) (.own (pv a' b')) := by
  obtain ⟨a', b', line, s3, s4, p', hp, e⟩ := lined_loop k [.own (pv a b), .shr (.int n), .un, .un, .un] (N := .shr (.int n)) (ws := ranged n) (line := []) .un .un p (by rw [ranged_len]; simpa using hn)
  refine ⟨line, a', b', by simpa [Ord] using hp, p', ?_⟩
  rw [cl]
  show runD (gN tab (k + 1)) d__law_lined _ = _
  rw [runD_eq rfl]
  have e1 : ∀ ρ0, execS (gN tab (k + 1)) [0] ρ0 (.set 2 (.lst false .nil)) [.own (pv a b), .shr (.int n), .un, .un, .un] = .nx [.own (pv a b), .shr (.int n), .own (.lst (il [])), .un, .un] := by
    intro ρ0; simp [execSs, execS, evalE, evalEs, evalOs, evalAs, evalIt, evalTe, evalOe, evalAnd, evalOr, getAll, argsOf, refOf, setBk, askV, peekV, readV, ↓bnd_tag, ↓out_tag, ↓seq_tag, tbnd_ok, tbnd_exc, tbnd_bad, tout_bad, tseq_bad, end_bad, tout_ok, tout_exc, tseq_nx, tseq_rt, tseq_ex, tseq_bk, tseq_ct, of_some, fin_val, fin_opd, fin_tst, end_nx, end_rt, end_ex, Opd.get, sv_imm, tru_imm, val_shr, val_own, val_own2, val_frz2, scalar, backOf, setSlot, lnt, lt, packL, isOwnL, big]
  have e2 : ∀ ρ0, execS (gN tab (k + 1)) [0] ρ0 q__law_lined_2 [.own (pv a b), .shr (.int n), .own (.lst (il [])), .un, .un] = forL (.one 3) (fun ρ' => execSs (gN tab (k + 1)) [0] ρ0 q__law_lined_1 ρ') (il (ranged n)) [.own (pv a b), .shr (.int n), .own (.lst (il [])), .un, .un] := fun ρ0 => by
    have it : evalIt (gN tab (k + 1)) (.rng2 (.cst (.int 1)) (.bop .add (.var 1) (.cst (.int 1)))) [.own (pv a b), .shr (.int n), .own (.lst (il [])), .un, .un] = .ok (il (ranged n), []) [.own (pv a b), .shr (.int n), .own (.lst (il [])), .un, .un] := by
      have r := rng_one n
      rw [← r]
      exact ev_rng2 (by simp [execSs, execS, evalE, evalEs, evalOs, evalAs, evalIt, evalTe, evalOe, evalAnd, evalOr, getAll, argsOf, refOf, setBk, askV, peekV, readV, ↓bnd_tag, ↓out_tag, ↓seq_tag, tbnd_ok, tbnd_exc, tbnd_bad, tout_bad, tseq_bad, end_bad, tout_ok, tout_exc, tseq_nx, tseq_rt, tseq_ex, tseq_bk, tseq_ct, of_some, fin_val, fin_opd, fin_tst, end_nx, end_rt, end_ex, Opd.get, sv_imm, tru_imm, val_shr, val_own, val_own2, val_frz2, scalar, backOf, setSlot, lnt, lt, packL, isOwnL]) (by simp [execSs, execS, evalE, evalEs, evalOs, evalAs, evalIt, evalTe, evalOe, evalAnd, evalOr, getAll, argsOf, refOf, setBk, askV, peekV, readV, ↓bnd_tag, ↓out_tag, ↓seq_tag, tbnd_ok, tbnd_exc, tbnd_bad, tout_bad, tseq_bad, end_bad, tout_ok, tout_exc, tseq_nx, tseq_rt, tseq_ex, tseq_bk, tseq_ct, of_some, fin_val, fin_opd, fin_tst, end_nx, end_rt, end_ex, Opd.get, sv_imm, tru_imm, val_shr, val_own, val_own2, val_frz2, scalar, backOf, setSlot, lnt, lt, packL, isOwnL, bop_add]) (by omega) (by omega) (by omega) (by omega)
    exact (ex_for it rfl).trans (bak_nil _ _)
  show endD (some 0) (execSs (gN tab (k + 1)) [0] [.own (pv a b), .shr (.int n), .un, .un, .un] d__law_lined.body [.own (pv a b), .shr (.int n), .un, .un, .un]) = _
  show endD (some 0) (execSs (gN tab (k + 1)) [0] [.own (pv a b), .shr (.int n), .un, .un, .un] (.cons (.set 2 (.lst false .nil)) (.cons q__law_lined_2 (.cons (.retv 2) .nil))) [.own (pv a b), .shr (.int n), .un, .un, .un]) = _
  rw [one_more, e1, seq_nx, one_more, e2, e, seq_nx]
  simp [execSs, execS, evalE, evalEs, evalOs, evalAs, evalIt, evalTe, evalOe, evalAnd, evalOr, getAll, argsOf, refOf, setBk, askV, peekV, readV, ↓bnd_tag, ↓out_tag, ↓seq_tag, tbnd_ok, tbnd_exc, tbnd_bad, tout_bad, tseq_bad, end_bad, tout_ok, tout_exc, tseq_nx, tseq_rt, tseq_ex, tseq_bk, tseq_ct, of_some, fin_val, fin_opd, fin_tst, end_nx, end_rt, end_ex, Opd.get, sv_imm, tru_imm, val_shr, val_own, val_own2, val_frz2, scalar, backOf, setSlot, lnt, lt, packL, isOwnL]
/-! ### the law's turned pairs -/
theorem idxP_il {y : Int} : ∀ {xs : List Int}, y ∈ xs → idxP (.int y) (il xs) = some (ix xs y)
  | x :: xs, h => by
    show (if PV.int x = .int y then some 0 else (idxP (.int y) (il xs)).map (· + 1)) = _
    by_cases e : x = y
    · subst e; simp [ix]
    · have h' : y ∈ xs := by
        rcases List.mem_cons.mp h with h | h
        · exact absurd h.symm e
        · exact h
      have e2 : (x == y) = false := by simpa using e
      rw [if_neg (fun z => e (PV.int.inj z)), idxP_il h']
      simp [ix, List.idxOf_cons, e2]
theorem index_il {y : Int} {xs : List Int} (h : y ∈ xs) : mthPV .index (.lst (il xs)) [.int y] = some (.shr (.int (ix xs y))) := by
  have hc : ((il xs).all fun x => cmpb x (.int y)) = true := by simp [List.all_eq_true, il, cmpb]
  have e : mthPV .index (.lst (il xs)) [.int y] = (posPV (.int y) (il xs)).map fun k => SV.shr (.int k) := rfl
  rw [e]
  unfold posPV
  rw [hc, dOks_il, idxP_il h]
  rfl
abbrev cnd (xs ys : List Int) (x y : Int) : Bool := decide (ix xs x < ix xs y) && decide (ix ys y < ix ys x)
theorem turned_in {g : Gm} (ρ0 : Rho) {xs ys : List Int} {x : Int} (hx : x ∈ xs) (hs : ∀ z ∈ xs, z ∈ ys) : ∀ {ws : List Int} {acc : List (Int × Int)} (s4 : SV), (∀ w ∈ ws, w ∈ xs) → acc.length + ws.length ≤ 10000 → ∃ s4',
    forL (.one 4) (fun ρ' => execSs g [] ρ0 q__law_turned_1 ρ') (il ws) [.shr (.lst (il xs)), .shr (.lst (il ys)), .own (.lst (pl acc)), .shr (.int x), s4] = .nx [.shr (.lst (il xs)), .shr (.lst (il ys)), .own (.lst (pl (acc ++ (ws.filter fun y => cnd xs ys x y).map fun y => (x, y)))), .shr (.int x), s4']
  | [], acc, s4, _, _ => ⟨s4, by simp [for_nil]⟩
  | w :: ws, acc, s4, h, hl => by
    simp only [List.length_cons] at hl
    have hw := h w (by simp)
    have i1 := index_il hx
    have i2 := index_il hw
    have i3 := index_il (hs x hx)
    have i4 := index_il (hs w hw)
    have turn : execSs g [] ρ0 q__law_turned_1 [.shr (.lst (il xs)), .shr (.lst (il ys)), .own (.lst (pl acc)), .shr (.int x), .shr (.int w)] = .nx [.shr (.lst (il xs)), .shr (.lst (il ys)), .own (.lst (pl (acc ++ if cnd xs ys x w then [(x, w)] else []))), .shr (.int x), .shr (.int w)] := by
      have la : acc.length < big := by unfold big; omega
      by_cases c1 : ix xs x < ix xs w
      · by_cases c2 : ix ys w < ix ys x
        · simp [execSs, execS, evalE, evalEs, evalOs, evalAs, evalIt, evalTe, evalOe, evalAnd, evalOr, getAll, argsOf, refOf, setBk, askV, peekV, readV, ↓bnd_tag, ↓out_tag, ↓seq_tag, tbnd_ok, tbnd_exc, tbnd_bad, tout_bad, tseq_bad, end_bad, tout_ok, tout_exc, tseq_nx, tseq_rt, tseq_ex, tseq_bk, tseq_ct, of_some, fin_val, fin_opd, fin_tst, end_nx, end_rt, end_ex, Opd.get, sv_imm, tru_imm, val_shr, val_own, val_own2, val_frz2, scalar, backOf, setSlot, lnt, lt, packL, isOwnL, q__law_turned_1, rcvOk, i1, i2, i3, i4, lt_int, truthP, c1, c2, isLstAt, appO, la, big]
          simp [execSs, execS, evalE, evalEs, evalOs, evalAs, evalIt, evalTe, evalOe, evalAnd, evalOr, getAll, argsOf, refOf, setBk, askV, peekV, readV, ↓bnd_tag, ↓out_tag, ↓seq_tag, tbnd_ok, tbnd_exc, tbnd_bad, tout_bad, tseq_bad, end_bad, tout_ok, tout_exc, tseq_nx, tseq_rt, tseq_ex, tseq_bk, tseq_ct, of_some, fin_val, fin_opd, fin_tst, end_nx, end_rt, end_ex, Opd.get, sv_imm, tru_imm, val_shr, val_own, val_own2, val_frz2, scalar, backOf, setSlot, lnt, lt, packL, isOwnL, appO, pl, la]
          rw [if_pos (by omega)]
          simp [execSs, execS, evalE, evalEs, evalOs, evalAs, evalIt, evalTe, evalOe, evalAnd, evalOr, getAll, argsOf, refOf, setBk, askV, peekV, readV, ↓bnd_tag, ↓out_tag, ↓seq_tag, tbnd_ok, tbnd_exc, tbnd_bad, tout_bad, tseq_bad, end_bad, tout_ok, tout_exc, tseq_nx, tseq_rt, tseq_ex, tseq_bk, tseq_ct, of_some, fin_val, fin_opd, fin_tst, end_nx, end_rt, end_ex, Opd.get, sv_imm, tru_imm, val_shr, val_own, val_own2, val_frz2, scalar, backOf, setSlot, lnt, lt, packL, isOwnL]
        · simp [execSs, execS, evalE, evalEs, evalOs, evalAs, evalIt, evalTe, evalOe, evalAnd, evalOr, getAll, argsOf, refOf, setBk, askV, peekV, readV, ↓bnd_tag, ↓out_tag, ↓seq_tag, tbnd_ok, tbnd_exc, tbnd_bad, tout_bad, tseq_bad, end_bad, tout_ok, tout_exc, tseq_nx, tseq_rt, tseq_ex, tseq_bk, tseq_ct, of_some, fin_val, fin_opd, fin_tst, end_nx, end_rt, end_ex, Opd.get, sv_imm, tru_imm, val_shr, val_own, val_own2, val_frz2, scalar, backOf, setSlot, lnt, lt, packL, isOwnL, q__law_turned_1, rcvOk, i1, i2, i3, i4, lt_int, truthP, c1, c2]
      · simp [execSs, execS, evalE, evalEs, evalOs, evalAs, evalIt, evalTe, evalOe, evalAnd, evalOr, getAll, argsOf, refOf, setBk, askV, peekV, readV, ↓bnd_tag, ↓out_tag, ↓seq_tag, tbnd_ok, tbnd_exc, tbnd_bad, tout_bad, tseq_bad, end_bad, tout_ok, tout_exc, tseq_nx, tseq_rt, tseq_ex, tseq_bk, tseq_ct, of_some, fin_val, fin_opd, fin_tst, end_nx, end_rt, end_ex, Opd.get, sv_imm, tru_imm, val_shr, val_own, val_own2, val_frz2, scalar, backOf, setSlot, lnt, lt, packL, isOwnL, q__law_turned_1, rcvOk, i1, i2, i3, i4, lt_int, truthP, c1]
    obtain ⟨s4', r⟩ := turned_in (g := g) ρ0 hx hs (ws := ws) (acc := acc ++ if cnd xs ys x w then [(x, w)] else []) (.shr (.int w)) (fun z hz => h z (by simp [hz])) (by split <;> simp <;> omega)
    refine ⟨s4', (for_nx rfl turn).trans (r.trans ?_)⟩
    rw [List.filter_cons]
    cases cnd xs ys x w <;> simp
theorem turned_out {g : Gm} (ρ0 : Rho) {xs ys : List Int} (hl : shortL xs) (hs : ∀ z ∈ xs, z ∈ ys) : ∀ {ws : List Int} {acc : List (Int × Int)} (s3 s4 : SV), (∀ w ∈ ws, w ∈ xs) → acc.length + ws.length * 20 ≤ 5000 → ∃ s3' s4',
    forL (.one 3) (fun ρ' => execSs g [] ρ0 q__law_turned_3 ρ') (il ws) [.shr (.lst (il xs)), .shr (.lst (il ys)), .own (.lst (pl acc)), s3, s4] = .nx [.shr (.lst (il xs)), .shr (.lst (il ys)), .own (.lst (pl (acc ++ ws.flatMap fun x => ((srt xs).filter fun y => cnd xs ys x y).map fun y => (x, y)))), s3', s4']
  | [], acc, s3, s4, _, _ => ⟨s3, s4, by simp [for_nil]⟩
  | w :: ws, acc, s3, s4, h, hb => by
    simp only [List.length_cons] at hb
    have hw := h w (by simp)
    have hl' : xs.length ≤ 20 := hl
    have hsl : (srt xs).length ≤ 20 := by rw [(srt_perm xs).length_eq]; exact hl'
    obtain ⟨s4', ti⟩ := turned_in (g := g) ρ0 hw hs (ws := srt xs) (acc := acc) s4 (fun z hz => mem_srt.mp hz) (by omega)
    have e : ∀ s4, execS g [] ρ0 q__law_turned_2 [.shr (.lst (il xs)), .shr (.lst (il ys)), .own (.lst (pl acc)), .shr (.int w), s4] = forL (.one 4) (fun ρ' => execSs g [] ρ0 q__law_turned_1 ρ') (il (srt xs)) [.shr (.lst (il xs)), .shr (.lst (il ys)), .own (.lst (pl acc)), .shr (.int w), s4] := fun s4 => by
      have it : evalIt g (.seq (.blt .sorted (.cons (.var 0) .nil))) [.shr (.lst (il xs)), .shr (.lst (il ys)), .own (.lst (pl acc)), .shr (.int w), s4] = .ok (il (srt xs), []) [.shr (.lst (il xs)), .shr (.lst (il ys)), .own (.lst (pl acc)), .shr (.int w), s4] := by
        simp [execSs, execS, evalE, evalEs, evalOs, evalAs, evalIt, evalTe, evalOe, evalAnd, evalOr, getAll, argsOf, refOf, setBk, askV, peekV, readV, ↓bnd_tag, ↓out_tag, ↓seq_tag, tbnd_ok, tbnd_exc, tbnd_bad, tout_bad, tseq_bad, end_bad, tout_ok, tout_exc, tseq_nx, tseq_rt, tseq_ex, tseq_bk, tseq_ct, of_some, fin_val, fin_opd, fin_tst, end_nx, end_rt, end_ex, Opd.get, sv_imm, tru_imm, val_shr, val_own, val_own2, val_frz2, scalar, backOf, setSlot, lnt, lt, packL, isOwnL, b_sortedl, hidO]
      exact (ex_for it rfl).trans (bak_nil _ _)
    have turn : execSs g [] ρ0 q__law_turned_3 [.shr (.lst (il xs)), .shr (.lst (il ys)), .own (.lst (pl acc)), .shr (.int w), s4] = .nx [.shr (.lst (il xs)), .shr (.lst (il ys)), .own (.lst (pl (acc ++ ((srt xs).filter fun y => cnd xs ys w y).map fun y => (w, y)))), .shr (.int w), s4'] := by
      simp only [q__law_turned_3, one_more, no_more, e, ti, seq_nx]
    obtain ⟨s3', s4'', r⟩ := turned_out (g := g) ρ0 hl hs (ws := ws) (acc := acc ++ ((srt xs).filter fun y => cnd xs ys w y).map fun y => (w, y)) (.shr (.int w)) s4' (fun z hz => h z (by simp [hz])) (by
      have := List.length_filter_le (fun y => cnd xs ys w y) (srt xs)
      simp only [List.length_append, List.length_map]
      omega)
    refine ⟨s3', s4'', (for_nx rfl turn).trans (r.trans ?_)⟩
    simp [List.flatMap_cons]
theorem c11 (k : Nat) {xs ys : List Int} (p : xs.Perm ys) (h : shortL xs) : (gN tab (k + 1)).call 11 [.shr (.lst (il xs)), .shr (.lst (il ys))] = .ok (.own (.lst (pl (tu xs ys)))) .un := by
  have hl' : xs.length ≤ 20 := h
  have hsl : (srt xs).length ≤ 20 := by rw [(srt_perm xs).length_eq]; exact hl'
  obtain ⟨s3, s4, r⟩ := turned_out (g := gN tab k) [.shr (.lst (il xs)), .shr (.lst (il ys)), .un, .un, .un] h (fun z hz => p.mem_iff.mp hz) (ws := srt xs) (acc := []) .un .un (fun z hz => mem_srt.mp hz) (by simp; omega)
  rw [cl]
  show runD (gN tab k) d__law_turned _ = _
  rw [runD_eq rfl]
  have e1 : ∀ ρ0, execS (gN tab k) [] ρ0 (.set 2 (.lst false .nil)) [.shr (.lst (il xs)), .shr (.lst (il ys)), .un, .un, .un] = .nx [.shr (.lst (il xs)), .shr (.lst (il ys)), .own (.lst (pl [])), .un, .un] := by
    intro ρ0; simp [execSs, execS, evalE, evalEs, evalOs, evalAs, evalIt, evalTe, evalOe, evalAnd, evalOr, getAll, argsOf, refOf, setBk, askV, peekV, readV, ↓bnd_tag, ↓out_tag, ↓seq_tag, tbnd_ok, tbnd_exc, tbnd_bad, tout_bad, tseq_bad, end_bad, tout_ok, tout_exc, tseq_nx, tseq_rt, tseq_ex, tseq_bk, tseq_ct, of_some, fin_val, fin_opd, fin_tst, end_nx, end_rt, end_ex, Opd.get, sv_imm, tru_imm, val_shr, val_own, val_own2, val_frz2, scalar, backOf, setSlot, lnt, lt, packL, isOwnL, big]
  have e : ∀ ρ0, execS (gN tab k) [] ρ0 q__law_turned_4 [.shr (.lst (il xs)), .shr (.lst (il ys)), .own (.lst (pl [])), .un, .un] = forL (.one 3) (fun ρ' => execSs (gN tab k) [] ρ0 q__law_turned_3 ρ') (il (srt xs)) [.shr (.lst (il xs)), .shr (.lst (il ys)), .own (.lst (pl [])), .un, .un] := fun ρ0 => by
    have it : evalIt (gN tab k) (.seq (.blt .sorted (.cons (.var 0) .nil))) [.shr (.lst (il xs)), .shr (.lst (il ys)), .own (.lst (pl [])), .un, .un] = .ok (il (srt xs), []) [.shr (.lst (il xs)), .shr (.lst (il ys)), .own (.lst (pl [])), .un, .un] := by
      simp [execSs, execS, evalE, evalEs, evalOs, evalAs, evalIt, evalTe, evalOe, evalAnd, evalOr, getAll, argsOf, refOf, setBk, askV, peekV, readV, ↓bnd_tag, ↓out_tag, ↓seq_tag, tbnd_ok, tbnd_exc, tbnd_bad, tout_bad, tseq_bad, end_bad, tout_ok, tout_exc, tseq_nx, tseq_rt, tseq_ex, tseq_bk, tseq_ct, of_some, fin_val, fin_opd, fin_tst, end_nx, end_rt, end_ex, Opd.get, sv_imm, tru_imm, val_shr, val_own, val_own2, val_frz2, scalar, backOf, setSlot, lnt, lt, packL, isOwnL, b_sortedl, hidO]
    exact (ex_for it rfl).trans (bak_nil _ _)
  show endD none (execSs (gN tab k) [] [.shr (.lst (il xs)), .shr (.lst (il ys)), .un, .un, .un] d__law_turned.body [.shr (.lst (il xs)), .shr (.lst (il ys)), .un, .un, .un]) = _
  simp only [d__law_turned, one_more, no_more, e1, seq_nx, e, r]
  simp only [List.nil_append]
  have et : ((srt xs).flatMap fun x => ((srt xs).filter fun y => cnd xs ys x y).map fun y => (x, y)) = tu xs ys := rfl
  rw [et]
  simp [execSs, execS, evalE, evalEs, evalOs, evalAs, evalIt, evalTe, evalOe, evalAnd, evalOr, getAll, argsOf, refOf, setBk, askV, peekV, readV, ↓bnd_tag, ↓out_tag, ↓seq_tag, tbnd_ok, tbnd_exc, tbnd_bad, tout_bad, tseq_bad, end_bad, tout_ok, tout_exc, tseq_nx, tseq_rt, tseq_ex, tseq_bk, tseq_ct, of_some, fin_val, fin_opd, fin_tst, end_nx, end_rt, end_ex, Opd.get, sv_imm, tru_imm, val_shr, val_own, val_own2, val_frz2, scalar, backOf, setSlot, lnt, lt, packL, isOwnL]
end K28
end KL
end
section
set_option linter.all false
set_option maxRecDepth 100000
/-! K28S: what the defs of k28 compute: middle, next, pairs, ways. -/
namespace KL
namespace K28
open PySem
theorem notin_loop {g : Gm} {a b c : SV} {qs : List (Int × Int)} : ∀ {ps : List (Int × Int)}, lcL (.one 4) [4] (fun ρ => (evalTe g q__law_middle_1 ρ).bnd fun b ρ => if b = true then (evalE g .val q__law_middle_2 ρ).bnd fun v ρ => .ok (some v.sv) ρ else .ok none ρ) (pl ps) [a, b, c, .own (.lst (pl qs)), .un]
    = .ok (ps.map fun p => .shr (.bl (!decide (p ∈ qs)))) [a, b, c, .own (.lst (pl qs)), .un]
  | [] => rfl
  | p :: ps => by
    refine (lc_cons (ρ1 := [a, b, c, .own (.lst (pl qs)), .shr (.tup [.int p.1, .int p.2])]) (o := some (.shr (.bl (!decide (p ∈ qs))))) (ρ2 := [a, b, c, .own (.lst (pl qs)), .shr (.tup [.int p.1, .int p.2])]) rfl ?_ notin_loop).trans (by simp)
    simp [execSs, execS, evalE, evalEs, evalOs, evalAs, evalIt, evalTe, evalOe, evalAnd, evalOr, getAll, argsOf, refOf, setBk, askV, peekV, readV, ↓bnd_tag, ↓out_tag, ↓seq_tag, tbnd_ok, tbnd_exc, tbnd_bad, tout_bad, tseq_bad, end_bad, tout_ok, tout_exc, tseq_nx, tseq_rt, tseq_ex, tseq_bk, tseq_ct, of_some, fin_val, fin_opd, fin_tst, end_nx, end_rt, end_ex, Opd.get, sv_imm, tru_imm, val_shr, val_own, val_own2, val_frz2, scalar, backOf, setSlot, lnt, lt, packL, isOwnL, q__law_middle_1, q__law_middle_2, notin_pl]
theorem all_id (ps qs : List (Int × Int)) : (ps.map fun p => !decide (p ∈ qs)).all id = ps.all fun p => !decide (p ∈ qs) := by
  simp [List.all_map]
theorem c12 (k : Nat) {n : Nat} {o f s : List Int} (ho : Ord n o) (hf : Ord n f) (hs : Ord n s) (hn : n ≤ 20) : (gN tab (k + 2)).call 12 [.shr (.lst (il o)), .shr (.lst (il f)), .shr (.lst (il s))] = .ok (.shr (.bl (mid o f s))) .un := by
  have e1 := c11 k (ho.perm hs) (ho.short hn)
  have e2 := c11 k (ho.perm hf) (ho.short hn)
  rw [cl]
  show runD (gN tab (k + 1)) d__law_middle _ = _
  rw [runD_eq rfl]
  let R : Rho := [.shr (.lst (il o)), .shr (.lst (il f)), .shr (.lst (il s)), .own (.lst (pl (tu o s))), .un]
  have it : evalIt (gN tab (k + 1)) (.seq (.call false 11 (.cons (.var 0) (.cons (.var 1) .nil)))) R = .ok (pl (tu o f), []) R := by simp [execSs, execS, evalE, evalEs, evalOs, evalAs, evalIt, evalTe, evalOe, evalAnd, evalOr, getAll, argsOf, refOf, setBk, askV, peekV, readV, ↓bnd_tag, ↓out_tag, ↓seq_tag, tbnd_ok, tbnd_exc, tbnd_bad, tout_bad, tseq_bad, end_bad, tout_ok, tout_exc, tseq_nx, tseq_rt, tseq_ex, tseq_bk, tseq_ct, of_some, fin_val, fin_opd, fin_tst, end_nx, end_rt, end_ex, Opd.get, sv_imm, tru_imm, val_shr, val_own, val_own2, val_frz2, scalar, backOf, setSlot, lnt, lt, packL, isOwnL, e2, hidO, R]
  have l : (pl (tu o f)).length ≤ big := by
    have := tb_len (ys := f) (ho.short hn)
    rw [← tb_sort ho.nd]
    simp [big]; omega
  have ev : evalE (gN tab (k + 1)) .opd q__law_middle_3 R = _ := ev_lc (m := .opd) (by decide) it (own := [4]) (by simp [notOwn, apart, R]; simpa using l) (notin_loop (ps := tu o f))
  have eb : ((tu o f).map fun p => SV.shr (.bl (!decide (p ∈ tu o s)))).map SV.val = ((tu o f).map fun p => !decide (p ∈ tu o s)).map PV.bl := by simp [val_shr]
  rw [eb] at ev
  have ea := all_bl ((tu o f).map fun p => !decide (p ∈ tu o s))
  rw [all_id] at ea
  simp only [R] at ev
  have ef : ∀ ρ0, execS (gN tab (k + 1)) [] ρ0 (.ret (.blt .all (.cons q__law_middle_3 .nil))) [.shr (.lst (il o)), .shr (.lst (il f)), .shr (.lst (il s)), .own (.lst (pl (tu o s))), .un] = .rt (.shr (.bl (mid o f s))) [.shr (.lst (il o)), .shr (.lst (il f)), .shr (.lst (il s)), .own (.lst (pl (tu o s))), .un] := by
    intro ρ0
    simp only [execSs, execS, evalE, evalEs, evalOs, evalAs, evalIt, evalTe, evalOe, evalAnd, evalOr, getAll, argsOf, refOf, setBk, askV, peekV, readV, ↓bnd_tag, ↓out_tag, ↓seq_tag, tbnd_ok, tbnd_exc, tbnd_bad, tout_bad, tseq_bad, end_bad, tout_ok, tout_exc, tseq_nx, tseq_rt, tseq_ex, tseq_bk, tseq_ct, of_some, fin_val, fin_opd, fin_tst, end_nx, end_rt, end_ex, Opd.get, sv_imm, tru_imm, val_shr, val_own, val_own2, val_frz2, scalar, backOf, setSlot, lnt, lt, packL, isOwnL, ev, ea]
    simp [backR, mid]
  have e0 : ∀ ρ0, execS (gN tab (k + 1)) [] ρ0 (.set 3 (.call false 11 (.cons (.var 0) (.cons (.var 2) .nil)))) [.shr (.lst (il o)), .shr (.lst (il f)), .shr (.lst (il s)), .un, .un] = .nx [.shr (.lst (il o)), .shr (.lst (il f)), .shr (.lst (il s)), .own (.lst (pl (tu o s))), .un] := by
    intro ρ0; simp [execSs, execS, evalE, evalEs, evalOs, evalAs, evalIt, evalTe, evalOe, evalAnd, evalOr, getAll, argsOf, refOf, setBk, askV, peekV, readV, ↓bnd_tag, ↓out_tag, ↓seq_tag, tbnd_ok, tbnd_exc, tbnd_bad, tout_bad, tseq_bad, end_bad, tout_ok, tout_exc, tseq_nx, tseq_rt, tseq_ex, tseq_bk, tseq_ct, of_some, fin_val, fin_opd, fin_tst, end_nx, end_rt, end_ex, Opd.get, sv_imm, tru_imm, val_shr, val_own, val_own2, val_frz2, scalar, backOf, setSlot, lnt, lt, packL, isOwnL, e1]
  show endD none (execSs (gN tab (k + 1)) [] [.shr (.lst (il o)), .shr (.lst (il f)), .shr (.lst (il s)), .un, .un] (.cons (.set 3 (.call false 11 (.cons (.var 0) (.cons (.var 2) .nil)))) (.cons (.ret (.blt .all (.cons q__law_middle_3 .nil))) .nil)) [.shr (.lst (il o)), .shr (.lst (il f)), .shr (.lst (il s)), .un, .un]) = _
  rw [one_more, e0, seq_nx, one_more, ef, seq_rt]
  rfl
def nextV (xs ys : List Int) : SV := match nxt xs ys with
  | some i => .own (.lst (il (swp xs i)))
  | none => .shr (.lst (il xs))
theorem nextV_val (xs ys : List Int) : nextV xs ys = .own (.lst (il (stp ys xs))) ∨ nextV xs ys = .shr (.lst (il (stp ys xs))) := by
  unfold nextV stp
  cases nxt xs ys with
  | some i => exact .inl rfl
  | none => exact .inr rfl
theorem c13 (k : Nat) {xs ys : List Int} (p : xs.Perm ys) (h : shortL xs) : (gN tab (k + 1)).call 13 [.shr (.lst (il xs)), .shr (.lst (il ys))] = .ok (nextV xs ys) .un := by
  have hl : xs.length ≤ 20 := h
  rw [cl]
  show runD (gN tab k) d__law_next _ = _
  rw [runD_eq rfl]
  let C : Rho → Outc := fun ρ => execSs (gN tab k) [] [.shr (.lst (il xs)), .shr (.lst (il ys)), .un] (.cons (.ret (.var 0)) .nil) ρ
  have c0 : ∀ s2, C [.shr (.lst (il xs)), .shr (.lst (il ys)), s2] = .rt (.shr (.lst (il xs))) [.shr (.lst (il xs)), .shr (.lst (il ys)), s2] := by intro s2; simp [C, execSs, execS, evalE, evalEs, evalOs, evalAs, evalIt, evalTe, evalOe, evalAnd, evalOr, getAll, argsOf, refOf, setBk, askV, peekV, readV, ↓bnd_tag, ↓out_tag, ↓seq_tag, tbnd_ok, tbnd_exc, tbnd_bad, tout_bad, tseq_bad, end_bad, tout_ok, tout_exc, tseq_nx, tseq_rt, tseq_ex, tseq_bk, tseq_ct, of_some, fin_val, fin_opd, fin_tst, end_nx, end_rt, end_ex, Opd.get, sv_imm, tru_imm, val_shr, val_own, val_own2, val_frz2, scalar, backOf, setSlot, lnt, lt, packL, isOwnL]
  have key : ∀ (is : List Nat), (∀ i ∈ is, i + 1 < xs.length) → ∀ s2, endD none ((forL (.one 2) (fun ρ' => execSs (gN tab k) [] [.shr (.lst (il xs)), .shr (.lst (il ys)), .un] q__law_next_1 ρ') (is.map fun (i : Nat) => PV.int (0 + (i : Int))) [.shr (.lst (il xs)), .shr (.lst (il ys)), s2]).seq C)
      = .ok (match is.find? (fun i => decide (ix ys (xs.getD (i + 1) 0) < ix ys (xs.getD i 0))) with | some i => .own (.lst (il (swp xs i))) | none => .shr (.lst (il xs))) .un := by
    intro is
    induction is with
    | nil => intro _ s2; rw [List.map_nil, for_nil, seq_nx, c0]; rfl
    | cons i is ih =>
      intro hi s2
      have hi1 := hi i (by simp)
      have turn : execSs (gN tab k) [] [.shr (.lst (il xs)), .shr (.lst (il ys)), .un] q__law_next_1 [.shr (.lst (il xs)), .shr (.lst (il ys)), .shr (.int i)]
          = if ix ys (xs.getD (i + 1) 0) < ix ys (xs.getD i 0) then .rt (.own (.lst (il (swp xs i)))) [.shr (.lst (il xs)), .shr (.lst (il ys)), .shr (.int i)] else .nx [.shr (.lst (il xs)), .shr (.lst (il ys)), .shr (.int i)] := by
        have m1 := index_il (p.mem_iff.mp (getD_mem hi1))
        have m2 := index_il (p.mem_iff.mp (getD_mem (show i < xs.length by omega)))
        have a1 := at_il1 hi1
        have a2 := at_il (show i < xs.length by omega)
        have t1 := cut_to (il xs) (i := i) (by simp; omega)
        have t2 := cut_from2 xs hi1
        have sw := il_swp xs i
        have cc1 := bop_cat (xs := (il xs).take i) (ys := [.int (xs.getD (i + 1) 0), .int (xs.getD i 0)]) (by simp; omega)
        have cc2 := bop_cat (xs := (il xs).take i ++ [.int (xs.getD (i + 1) 0), .int (xs.getD i 0)]) (ys := (il xs).drop (i + 2)) (by simp; omega)
        have sw2 : (il xs).take i ++ [.int (xs.getD (i + 1) 0), .int (xs.getD i 0)] ++ (il xs).drop (i + 2) = il (swp xs i) := by rw [← sw]; simp
        rw [sw2] at cc2
        generalize hq : swp xs i = q at *
        simp only [List.getD_eq_getElem?_getD] at m1 m2 a1 a2 cc1 cc2
        by_cases c : ix ys (xs.getD (i + 1) 0) < ix ys (xs.getD i 0)
        · rw [if_pos c]
          simp only [List.getD_eq_getElem?_getD] at c
          generalize hil : il xs = L at *
          simp [-List.map_take, execSs, execS, evalE, evalEs, evalOs, evalAs, evalIt, evalTe, evalOe, evalAnd, evalOr, getAll, argsOf, refOf, setBk, askV, peekV, readV, ↓bnd_tag, ↓out_tag, ↓seq_tag, tbnd_ok, tbnd_exc, tbnd_bad, tout_bad, tseq_bad, end_bad, tout_ok, tout_exc, tseq_nx, tseq_rt, tseq_ex, tseq_bk, tseq_ct, of_some, fin_val, fin_opd, fin_tst, end_nx, end_rt, end_ex, Opd.get, sv_imm, tru_imm, val_shr, val_own, val_own2, val_frz2, scalar, backOf, setSlot, lnt, lt, packL, isOwnL, q__law_next_1, rcvOk, bop_add, a1, a2, m1, m2, lt_int, truthP, c, slcPV, t1, t2, cc1, cc2, big]
        · rw [if_neg c]
          simp only [List.getD_eq_getElem?_getD] at c
          simp [execSs, execS, evalE, evalEs, evalOs, evalAs, evalIt, evalTe, evalOe, evalAnd, evalOr, getAll, argsOf, refOf, setBk, askV, peekV, readV, ↓bnd_tag, ↓out_tag, ↓seq_tag, tbnd_ok, tbnd_exc, tbnd_bad, tout_bad, tseq_bad, end_bad, tout_ok, tout_exc, tseq_nx, tseq_rt, tseq_ex, tseq_bk, tseq_ct, of_some, fin_val, fin_opd, fin_tst, end_nx, end_rt, end_ex, Opd.get, sv_imm, tru_imm, val_shr, val_own, val_own2, val_frz2, scalar, backOf, setSlot, lnt, lt, packL, isOwnL, q__law_next_1, rcvOk, bop_add, a1, a2, m1, m2, lt_int, truthP, c]
      rw [List.find?_cons]
      by_cases c : ix ys (xs.getD (i + 1) 0) < ix ys (xs.getD i 0)
      · rw [if_pos c] at turn
        rw [decide_eq_true c]
        exact (congrArg (fun o : Outc => endD none (o.seq C)) (for_rt (by simp [bindTg]) turn)).trans rfl
      · rw [if_neg c] at turn
        rw [decide_eq_false c]
        exact (congrArg (fun o : Outc => endD none (o.seq C)) (for_nx (by simp [bindTg]) turn)).trans (ih (fun j hj => hi j (by simp [hj])) _)
  have e2 : ∀ ρ0, execS (gN tab k) [] ρ0 q__law_next_2 [.shr (.lst (il xs)), .shr (.lst (il ys)), .un] = forL (.one 2) (fun ρ' => execSs (gN tab k) [] ρ0 q__law_next_1 ρ') ((List.range (xs.length - 1)).map fun (i : Nat) => PV.int (0 + (i : Int))) [.shr (.lst (il xs)), .shr (.lst (il ys)), .un] := fun ρ0 => by
    have b := b_lenl (il xs)
    rw [List.length_map] at b
    have it := ev_rng1 (g := gN tab k) (a := .bop .sub (.blt .len (.cons (.var 0) .nil)) (.cst (.int 1))) (ρ := [.shr (.lst (il xs)), .shr (.lst (il ys)), .un]) (j := (xs.length : Int) - 1) (by simp [execSs, execS, evalE, evalEs, evalOs, evalAs, evalIt, evalTe, evalOe, evalAnd, evalOr, getAll, argsOf, refOf, setBk, askV, peekV, readV, ↓bnd_tag, ↓out_tag, ↓seq_tag, tbnd_ok, tbnd_exc, tbnd_bad, tout_bad, tseq_bad, end_bad, tout_ok, tout_exc, tseq_nx, tseq_rt, tseq_ex, tseq_bk, tseq_ct, of_some, fin_val, fin_opd, fin_tst, end_nx, end_rt, end_ex, Opd.get, sv_imm, tru_imm, val_shr, val_own, val_own2, val_frz2, scalar, backOf, setSlot, lnt, lt, packL, isOwnL, b, bop_sub]) (by omega) (by omega)
    have e : ((xs.length : Int) - 1).toNat = xs.length - 1 := by omega
    rw [e] at it
    exact (ex_for it rfl).trans (bak_nil _ _)
  show endD none (execSs (gN tab k) [] [.shr (.lst (il xs)), .shr (.lst (il ys)), .un] (.cons q__law_next_2 (.cons (.ret (.var 0)) .nil)) [.shr (.lst (il xs)), .shr (.lst (il ys)), .un]) = _
  have kk := key (List.range (xs.length - 1)) (fun i hi => by rw [List.mem_range] at hi; omega) .un
  rw [one_more, e2]
  unfold nextV nxt
  exact kk
/-! ### pairs right -/
theorem tup_loop {g : Gm} {a b c d e : SV} : ∀ {ps : List (Int × Int)}, lcL (.one 5) [5] (fun ρ => (evalTe g q__law_pairs_right_1 ρ).bnd fun b ρ => if b = true then (evalE g .val q__law_pairs_right_2 ρ).bnd fun v ρ => .ok (some v.sv) ρ else .ok none ρ) (pl ps) [a, b, c, d, e, .un]
    = .ok (ps.map fun _ => .shr (.bl true)) [a, b, c, d, e, .un]
  | [] => rfl
  | p :: ps => by
    refine (lc_cons (ρ1 := [a, b, c, d, e, .shr (.tup [.int p.1, .int p.2])]) (o := some (.shr (.bl true))) (ρ2 := [a, b, c, d, e, .shr (.tup [.int p.1, .int p.2])]) rfl ?_ tup_loop).trans (by simp)
    simp [execSs, execS, evalE, evalEs, evalOs, evalAs, evalIt, evalTe, evalOe, evalAnd, evalOr, getAll, argsOf, refOf, setBk, askV, peekV, readV, ↓bnd_tag, ↓out_tag, ↓seq_tag, tbnd_ok, tbnd_exc, tbnd_bad, tout_bad, tseq_bad, end_bad, tout_ok, tout_exc, tseq_nx, tseq_rt, tseq_ex, tseq_bk, tseq_ct, of_some, fin_val, fin_opd, fin_tst, end_nx, end_rt, end_ex, Opd.get, sv_imm, tru_imm, val_shr, val_own, val_own2, val_frz2, scalar, backOf, setSlot, lnt, lt, packL, isOwnL, q__law_pairs_right_1, q__law_pairs_right_2, b_ist]
theorem c14 (k : Nat) {n : Nat} {xs ys : List Int} (hx : Ord n xs) (hy : Ord n ys) (hn : n ≤ 20) : (gN tab (k + 4)).call 14 [.shr (.lst (il xs)), .shr (.lst (il ys))] = .ok (.shr (.bl true)) .un := by
  have e11 := c11 (k + 2) (hx.perm hy) (hx.short hn)
  have e3 := c3_ok k true hx hy hn
  have hT := tu_len (ys := ys) hx.nd (hx.short hn)
  generalize tu xs ys = T at e11 e3 hT
  rw [cl]
  show runD (gN tab (k + 3)) d__law_pairs_right _ = _
  rw [runD_eq rfl]
  have turn : ∀ ρ0 s3 s4, execSs (gN tab (k + 3)) [] ρ0 q__law_pairs_right_4 [.shr (.lst (il xs)), .shr (.lst (il ys)), .own (.lst (pl T)), s3, s4, .un] = .nx [.shr (.lst (il xs)), .shr (.lst (il ys)), .own (.lst (pl T)), s3, .own (.lst (pl T ++ [.tup [.int 0, .int 0]])), .un] := by
    intro ρ0 s3 s4
    have f1 : ∀ ρ0, execS (gN tab (k + 3)) [] ρ0 (.set 4 (.call false 3 (.cons (.blt .list (.cons (.var 0) .nil)) (.cons (.blt .tuple (.cons (.var 1) .nil)) .nil)))) [.shr (.lst (il xs)), .shr (.lst (il ys)), .own (.lst (pl T)), s3, s4, .un] = .nx [.shr (.lst (il xs)), .shr (.lst (il ys)), .own (.lst (pl T)), s3, .own (.lst (pl T)), .un] := by
      intro ρ0
      have e3' : (gN tab (k + 3)).call 3 [.shr (.lst (il xs)), .shr (.tup (il ys))] = .ok (.own (.lst (pl T))) .un := e3
      simp [execSs, execS, evalE, evalEs, evalOs, evalAs, evalIt, evalTe, evalOe, evalAnd, evalOr, getAll, argsOf, refOf, setBk, askV, peekV, readV, ↓bnd_tag, ↓out_tag, ↓seq_tag, tbnd_ok, tbnd_exc, tbnd_bad, tout_bad, tseq_bad, end_bad, tout_ok, tout_exc, tseq_nx, tseq_rt, tseq_ex, tseq_bk, tseq_ct, of_some, fin_val, fin_opd, fin_tst, end_nx, end_rt, end_ex, Opd.get, sv_imm, tru_imm, val_shr, val_own, val_own2, val_frz2, scalar, backOf, setSlot, lnt, lt, packL, isOwnL, b_listl, b_tuplel, e3']
    have it : evalIt (gN tab (k + 3)) (.seq (.var 4)) [.shr (.lst (il xs)), .shr (.lst (il ys)), .own (.lst (pl T)), s3, .own (.lst (pl T)), .un] = .ok (pl T, [4]) [.shr (.lst (il xs)), .shr (.lst (il ys)), .own (.lst (pl T)), s3, .own (.lst (pl T)), .un] := by simp [execSs, execS, evalE, evalEs, evalOs, evalAs, evalIt, evalTe, evalOe, evalAnd, evalOr, getAll, argsOf, refOf, setBk, askV, peekV, readV, ↓bnd_tag, ↓out_tag, ↓seq_tag, tbnd_ok, tbnd_exc, tbnd_bad, tout_bad, tseq_bad, end_bad, tout_ok, tout_exc, tseq_nx, tseq_rt, tseq_ex, tseq_bk, tseq_ct, of_some, fin_val, fin_opd, fin_tst, end_nx, end_rt, end_ex, Opd.get, sv_imm, tru_imm, val_shr, val_own, val_own2, val_frz2, scalar, backOf, setSlot, lnt, lt, packL, isOwnL, hidO]
    have l : (pl T).length ≤ big := by simp [big]; omega
    have ev : evalE (gN tab (k + 3)) .opd q__law_pairs_right_3 [.shr (.lst (il xs)), .shr (.lst (il ys)), .own (.lst (pl T)), s3, .own (.lst (pl T)), .un] = _ := ev_lc (m := .opd) (by decide) it (own := [5]) (by simp [notOwn, apart]; simpa using l) (tup_loop (ps := T))
    have eb : (T.map fun _ => SV.shr (.bl true)).map SV.val = (T.map fun _ => true).map PV.bl := by simp [val_shr]
    rw [eb] at ev
    have ea := all_bl (T.map fun _ => true)
    have et : (T.map fun _ => true).all id = true := by simp [List.all_map]
    rw [et] at ea
    generalize List.map PV.bl (List.map (fun _ => true) T) = Bs at ev ea
    have f2 : ∀ ρ0, execS (gN tab (k + 3)) [] ρ0 (.ife (.bor (.cons (.bnot (.blt (.isi .list) (.cons (.var 4) .nil))) (.cons (.bnot (.blt .all (.cons q__law_pairs_right_3 .nil))) (.cons (.cmp .ne (.var 4) (.var 2)) .nil)))) (.cons (.ret (.cst (.bl false))) .nil) .nil) [.shr (.lst (il xs)), .shr (.lst (il ys)), .own (.lst (pl T)), s3, .own (.lst (pl T)), .un] = .nx [.shr (.lst (il xs)), .shr (.lst (il ys)), .own (.lst (pl T)), s3, .own (.lst (pl T)), .un] := by
      intro ρ0
      simp [execSs, execS, evalE, evalEs, evalOs, evalAs, evalIt, evalTe, evalOe, evalAnd, evalOr, getAll, argsOf, refOf, setBk, askV, peekV, readV, ↓bnd_tag, ↓out_tag, ↓seq_tag, tbnd_ok, tbnd_exc, tbnd_bad, tout_bad, tseq_bad, end_bad, tout_ok, tout_exc, tseq_nx, tseq_rt, tseq_ex, tseq_bk, tseq_ct, of_some, fin_val, fin_opd, fin_tst, end_nx, end_rt, end_ex, Opd.get, sv_imm, tru_imm, val_shr, val_own, val_own2, val_frz2, scalar, backOf, setSlot, lnt, lt, packL, isOwnL, ev, backR, ea, b_isl, truthP, ne_pl]
    have f3 : ∀ ρ0, execS (gN tab (k + 3)) [] ρ0 (.app false 4 (.tup (.cons (.cst (.int 0)) (.cons (.cst (.int 0)) .nil)))) [.shr (.lst (il xs)), .shr (.lst (il ys)), .own (.lst (pl T)), s3, .own (.lst (pl T)), .un] = .nx [.shr (.lst (il xs)), .shr (.lst (il ys)), .own (.lst (pl T)), s3, .own (.lst (pl T ++ [.tup [.int 0, .int 0]])), .un] := by
      intro ρ0
      have l2 : T.length < 16777216 := by omega
      simp [execSs, execS, evalE, evalEs, evalOs, evalAs, evalIt, evalTe, evalOe, evalAnd, evalOr, getAll, argsOf, refOf, setBk, askV, peekV, readV, ↓bnd_tag, ↓out_tag, ↓seq_tag, tbnd_ok, tbnd_exc, tbnd_bad, tout_bad, tseq_bad, end_bad, tout_ok, tout_exc, tseq_nx, tseq_rt, tseq_ex, tseq_bk, tseq_ct, of_some, fin_val, fin_opd, fin_tst, end_nx, end_rt, end_ex, Opd.get, sv_imm, tru_imm, val_shr, val_own, val_own2, val_frz2, scalar, backOf, setSlot, lnt, lt, packL, isOwnL, isLstAt, appO, big, l2]
    unfold q__law_pairs_right_4
    rw [one_more, f1, seq_nx, one_more, f2, seq_nx, one_more, f3, seq_nx, no_more]
  have e0 : ∀ ρ0, execS (gN tab (k + 3)) [] ρ0 (.set 2 (.call false 11 (.cons (.var 0) (.cons (.var 1) .nil)))) [.shr (.lst (il xs)), .shr (.lst (il ys)), .un, .un, .un, .un] = .nx [.shr (.lst (il xs)), .shr (.lst (il ys)), .own (.lst (pl T)), .un, .un, .un] := by
    intro ρ0; simp [execSs, execS, evalE, evalEs, evalOs, evalAs, evalIt, evalTe, evalOe, evalAnd, evalOr, getAll, argsOf, refOf, setBk, askV, peekV, readV, ↓bnd_tag, ↓out_tag, ↓seq_tag, tbnd_ok, tbnd_exc, tbnd_bad, tout_bad, tseq_bad, end_bad, tout_ok, tout_exc, tseq_nx, tseq_rt, tseq_ex, tseq_bk, tseq_ct, of_some, fin_val, fin_opd, fin_tst, end_nx, end_rt, end_ex, Opd.get, sv_imm, tru_imm, val_shr, val_own, val_own2, val_frz2, scalar, backOf, setSlot, lnt, lt, packL, isOwnL, e11]
  have e2 : ∀ ρ0, execS (gN tab (k + 3)) [] ρ0 q__law_pairs_right_5 [.shr (.lst (il xs)), .shr (.lst (il ys)), .own (.lst (pl T)), .un, .un, .un] = .nx [.shr (.lst (il xs)), .shr (.lst (il ys)), .own (.lst (pl T)), .shr (.int 1), .own (.lst (pl T ++ [.tup [.int 0, .int 0]])), .un] := fun ρ0 => by
    have it := ev_rng1 (g := gN tab (k + 3)) (a := .cst (.int 2)) (ρ := [.shr (.lst (il xs)), .shr (.lst (il ys)), .own (.lst (pl T)), .un, .un, .un]) (j := 2) (by simp [execSs, execS, evalE, evalEs, evalOs, evalAs, evalIt, evalTe, evalOe, evalAnd, evalOr, getAll, argsOf, refOf, setBk, askV, peekV, readV, ↓bnd_tag, ↓out_tag, ↓seq_tag, tbnd_ok, tbnd_exc, tbnd_bad, tout_bad, tseq_bad, end_bad, tout_ok, tout_exc, tseq_nx, tseq_rt, tseq_ex, tseq_bk, tseq_ct, of_some, fin_val, fin_opd, fin_tst, end_nx, end_rt, end_ex, Opd.get, sv_imm, tru_imm, val_shr, val_own, val_own2, val_frz2, scalar, backOf, setSlot, lnt, lt, packL, isOwnL]) (by omega) (by omega)
    have er : rngPV 0 (2 : Int).toNat = [.int 0, .int 1] := rfl
    rw [er] at it
    refine (ex_for it rfl).trans ((bak_nil _ _).trans ?_)
    rw [wipe_nil]
    refine (for_nx rfl (turn _ _ _)).trans ?_
    exact (for_nx rfl (turn _ _ _)).trans rfl
  show endD none (execSs (gN tab (k + 3)) [] [.shr (.lst (il xs)), .shr (.lst (il ys)), .un, .un, .un, .un] (.cons (.set 2 (.call false 11 (.cons (.var 0) (.cons (.var 1) .nil)))) (.cons q__law_pairs_right_5 (.cons (.ret (.cst (.bl true))) .nil))) [.shr (.lst (il xs)), .shr (.lst (il ys)), .un, .un, .un, .un]) = _
  rw [one_more, e0, seq_nx, one_more, e2, seq_nx]
  simp [execSs, execS, evalE, evalEs, evalOs, evalAs, evalIt, evalTe, evalOe, evalAnd, evalOr, getAll, argsOf, refOf, setBk, askV, peekV, readV, ↓bnd_tag, ↓out_tag, ↓seq_tag, tbnd_ok, tbnd_exc, tbnd_bad, tout_bad, tseq_bad, end_bad, tout_ok, tout_exc, tseq_nx, tseq_rt, tseq_ex, tseq_bk, tseq_ct, of_some, fin_val, fin_opd, fin_tst, end_nx, end_rt, end_ex, Opd.get, sv_imm, tru_imm, val_shr, val_own, val_own2, val_frz2, scalar, backOf, setSlot, lnt, lt, packL, isOwnL]
/-! ### ways right -/
theorem chn_len (ys : List Int) : ∀ (m : Nat) (xs : List Int), (chn ys m xs).length = m + 1
  | 0, _ => rfl
  | m + 1, xs => by show (chn ys m (stp ys xs)).length + 1 = _; rw [chn_len ys m]
theorem chn_last {ys : List Int} (hn : ys.Nodup) : ∀ (m : Nat) (xs : List Int), xs.Perm ys → (tu xs ys).length = m → (chn ys m xs)[m]? = some ys
  | 0, xs, p, h => by
    have := nxt_none_eq p (p.nodup_iff.mpr hn) (nxt_of_tu0 (p.nodup_iff.mpr hn) h)
    subst this; rfl
  | m + 1, xs, p, h => by
    obtain ⟨i, hi⟩ := nxt_of_tu p (p.nodup_iff.mpr hn) h
    have st := step_ok (p.nodup_iff.mpr hn) hi
    have es : stp ys xs = swp xs i := by unfold stp; rw [hi]
    show (chn ys m (stp ys xs))[m]? = _
    rw [es]
    exact chn_last hn m _ (st.1.trans p) (by omega)
/-- that list, of one's own or not -/
def isL (s : SV) (xs : List Int) : Prop := s = .own (.lst (il xs)) ∨ s = .shr (.lst (il xs))
theorem way_chk (k : Nat) {n : Nat} {xs ys : List Int} (hx : Ord n xs) (hy : Ord n ys) (hn : n ≤ 20) (ρ0 : Rho) {G W : SV} : ∀ (m : Nat) (cur : List Int) (s4 s5 : SV), Ord n cur → mid cur xs ys = true → (tu cur ys).length = m → isL s4 cur → ∃ s4' s5',
    forL (.one 5) (fun ρ' => execSs (gN tab (k + 3)) [0, 1] ρ0 q__law_way_right_1 ρ') ((chn ys m cur).map ol) [.shr (.lst (il xs)), .shr (.lst (il ys)), G, W, s4, s5] = .nx [.shr (.lst (il xs)), .shr (.lst (il ys)), G, W, s4', s5'] := by
  have turn : ∀ cur s4, Ord n cur → mid cur xs ys = true → isL s4 cur → execSs (gN tab (k + 3)) [0, 1] ρ0 q__law_way_right_1 [.shr (.lst (il xs)), .shr (.lst (il ys)), G, W, s4, .shr (ol cur)] = .nx [.shr (.lst (il xs)), .shr (.lst (il ys)), G, W, nextV cur ys, .shr (ol cur)] := by
    intro cur s4 hc hm hs
    have e12 := c12 (k + 1) hc hx hy hn
    have e5 := c5_ok k hc hx hy hn
    have e13 := c13 (k + 2) (hc.perm hy) (hc.short hn)
    rw [hm] at e12 e5
    have ne := ne_il cur cur
    have f1 : ∀ ρ0, execS (gN tab (k + 3)) [0, 1] ρ0 (.ife (.bor (.cons (.bnot (.blt (.isi .list) (.cons (.var 5) .nil))) (.cons (.cmp .ne (.var 5) (.var 4)) (.cons (.bnot (.call false 12 (.cons (.var 5) (.cons (.var 0) (.cons (.var 1) .nil))))) .nil)))) (.cons (.ret (.cst (.bl false))) .nil) .nil) [.shr (.lst (il xs)), .shr (.lst (il ys)), G, W, s4, .shr (ol cur)] = .nx [.shr (.lst (il xs)), .shr (.lst (il ys)), G, W, s4, .shr (ol cur)] := by
      intro ρ0
      rcases hs with rfl | rfl
      · simp [execSs, execS, evalE, evalEs, evalOs, evalAs, evalIt, evalTe, evalOe, evalAnd, evalOr, getAll, argsOf, refOf, setBk, askV, peekV, readV, ↓bnd_tag, ↓out_tag, ↓seq_tag, tbnd_ok, tbnd_exc, tbnd_bad, tout_bad, tseq_bad, end_bad, tout_ok, tout_exc, tseq_nx, tseq_rt, tseq_ex, tseq_bk, tseq_ct, of_some, fin_val, fin_opd, fin_tst, end_nx, end_rt, end_ex, Opd.get, sv_imm, tru_imm, val_shr, val_own, val_own2, val_frz2, scalar, backOf, setSlot, lnt, lt, packL, isOwnL, b_isl, truthP, ne, e12]
      · simp [execSs, execS, evalE, evalEs, evalOs, evalAs, evalIt, evalTe, evalOe, evalAnd, evalOr, getAll, argsOf, refOf, setBk, askV, peekV, readV, ↓bnd_tag, ↓out_tag, ↓seq_tag, tbnd_ok, tbnd_exc, tbnd_bad, tout_bad, tseq_bad, end_bad, tout_ok, tout_exc, tseq_nx, tseq_rt, tseq_ex, tseq_bk, tseq_ct, of_some, fin_val, fin_opd, fin_tst, end_nx, end_rt, end_ex, Opd.get, sv_imm, tru_imm, val_shr, val_own, val_own2, val_frz2, scalar, backOf, setSlot, lnt, lt, packL, isOwnL, b_isl, truthP, ne, e12]
    have f2 : ∀ ρ0, execS (gN tab (k + 3)) [0, 1] ρ0 (.ife (.isk true (.call false 5 (.cons (.var 5) (.cons (.var 0) (.cons (.var 1) .nil)))) (.bl true)) (.cons (.ret (.cst (.bl false))) .nil) .nil) [.shr (.lst (il xs)), .shr (.lst (il ys)), G, W, s4, .shr (ol cur)] = .nx [.shr (.lst (il xs)), .shr (.lst (il ys)), G, W, s4, .shr (ol cur)] := by
      intro ρ0
      simp [execSs, execS, evalE, evalEs, evalOs, evalAs, evalIt, evalTe, evalOe, evalAnd, evalOr, getAll, argsOf, refOf, setBk, askV, peekV, readV, ↓bnd_tag, ↓out_tag, ↓seq_tag, tbnd_ok, tbnd_exc, tbnd_bad, tout_bad, tseq_bad, end_bad, tout_ok, tout_exc, tseq_nx, tseq_rt, tseq_ex, tseq_bk, tseq_ct, of_some, fin_val, fin_opd, fin_tst, end_nx, end_rt, end_ex, Opd.get, sv_imm, tru_imm, val_shr, val_own, val_own2, val_frz2, scalar, backOf, setSlot, lnt, lt, packL, isOwnL, truthP, e5]
    have f3 : ∀ ρ0, execS (gN tab (k + 3)) [0, 1] ρ0 (.set 4 (.call false 13 (.cons (.var 4) (.cons (.var 1) .nil)))) [.shr (.lst (il xs)), .shr (.lst (il ys)), G, W, s4, .shr (ol cur)] = .nx [.shr (.lst (il xs)), .shr (.lst (il ys)), G, W, nextV cur ys, .shr (ol cur)] := by
      intro ρ0
      rcases hs with rfl | rfl
      · simp [execSs, execS, evalE, evalEs, evalOs, evalAs, evalIt, evalTe, evalOe, evalAnd, evalOr, getAll, argsOf, refOf, setBk, askV, peekV, readV, ↓bnd_tag, ↓out_tag, ↓seq_tag, tbnd_ok, tbnd_exc, tbnd_bad, tout_bad, tseq_bad, end_bad, tout_ok, tout_exc, tseq_nx, tseq_rt, tseq_ex, tseq_bk, tseq_ct, of_some, fin_val, fin_opd, fin_tst, end_nx, end_rt, end_ex, Opd.get, sv_imm, tru_imm, val_shr, val_own, val_own2, val_frz2, scalar, backOf, setSlot, lnt, lt, packL, isOwnL, e13]
      · simp [execSs, execS, evalE, evalEs, evalOs, evalAs, evalIt, evalTe, evalOe, evalAnd, evalOr, getAll, argsOf, refOf, setBk, askV, peekV, readV, ↓bnd_tag, ↓out_tag, ↓seq_tag, tbnd_ok, tbnd_exc, tbnd_bad, tout_bad, tseq_bad, end_bad, tout_ok, tout_exc, tseq_nx, tseq_rt, tseq_ex, tseq_bk, tseq_ct, of_some, fin_val, fin_opd, fin_tst, end_nx, end_rt, end_ex, Opd.get, sv_imm, tru_imm, val_shr, val_own, val_own2, val_frz2, scalar, backOf, setSlot, lnt, lt, packL, isOwnL, e13]
    unfold q__law_way_right_1
    rw [one_more, f1, seq_nx, one_more, f2, seq_nx, one_more, f3, seq_nx, no_more]
  intro m
  induction m with
  | zero =>
    intro cur s4 s5 hc hm _ hs
    exact ⟨_, _, (for_nx rfl (turn cur s4 hc hm hs)).trans rfl⟩
  | succ m ih =>
    intro cur s4 s5 hc hm ht hs
    obtain ⟨i, hi⟩ := nxt_of_tu (hc.perm hy) hc.nd ht
    have st := step_ok hc.nd hi
    have es : stp ys cur = swp cur i := by unfold stp; rw [hi]
    have ho : Ord n (swp cur i) := st.1.trans hc
    obtain ⟨s4', s5', r⟩ := ih (swp cur i) (nextV cur ys) (.shr (ol cur)) ho (mid_step (hc.perm hx) (hc.perm hy) hc.nd hi hm) (by omega) (by
      rw [← es]; exact nextV_val cur ys)
    refine ⟨s4', s5', ?_⟩
    have ec : chn ys (m + 1) cur = cur :: chn ys m (swp cur i) := by
      show cur :: chn ys m (stp ys cur) = _
      rw [es]
    rw [ec]
    exact (for_nx rfl (turn cur s4 hc hm hs)).trans r
theorem c15 (k : Nat) {n : Nat} {xs ys : List Int} (hx : Ord n xs) (hy : Ord n ys) (hn : n ≤ 20) : (gN tab (k + 4)).call 15 [.shr (.lst (il xs)), .shr (.lst (il ys))] = .ok (.shr (.bl true)) .un := by
  have e7 := c7 k false hx hy hn
  have e7t := c7 k true hx hy hn
  have e11 := c11 (k + 2) (hx.perm hy) (hx.short hn)
  have hm := tu_len (ys := ys) hx.nd (hx.short hn)
  have h0 := chn_cons ys (tu xs ys).length xs
  have hL := chn_len ys (tu xs ys).length xs
  have hlast := chn_last hy.nd _ xs (hx.perm hy) rfl
  obtain ⟨s4, s5, lp⟩ := way_chk k hx hy hn [.shr (.lst (il xs)), .shr (.lst (il ys)), .un, .un, .un, .un] (G := .shr (.lst (il xs))) (W := .frz2 (.lst ((chn ys (tu xs ys).length xs).map ol))) _ xs (.own (.lst (il xs))) .un hx (mid_first (hx.perm hy)) rfl (.inl rfl)
  have hlx := hx.len
  generalize hW : chn ys (tu xs ys).length xs = W at *
  generalize hmm : (tu xs ys).length = m at *
  rw [cl]
  show runD (gN tab (k + 3)) d__law_way_right _ = _
  rw [runD_eq rfl]
  generalize hρ0 : ([.shr (.lst (il xs)), .shr (.lst (il ys)), .un, .un, .un, .un] : Rho) = ρ0 at lp
  have g1 : execS (gN tab (k + 3)) [0, 1] ρ0 (.set 2 (.blt .list (.cons (.var 0) .nil))) [.shr (.lst (il xs)), .shr (.lst (il ys)), .un, .un, .un, .un] = .nx [.shr (.lst (il xs)), .shr (.lst (il ys)), .own (.lst (il xs)), .un, .un, .un] := by
    simp [execSs, execS, evalE, evalEs, evalOs, evalAs, evalIt, evalTe, evalOe, evalAnd, evalOr, getAll, argsOf, refOf, setBk, askV, peekV, readV, ↓bnd_tag, ↓out_tag, ↓seq_tag, tbnd_ok, tbnd_exc, tbnd_bad, tout_bad, tseq_bad, end_bad, tout_ok, tout_exc, tseq_nx, tseq_rt, tseq_ex, tseq_bk, tseq_ct, of_some, fin_val, fin_opd, fin_tst, end_nx, end_rt, end_ex, Opd.get, sv_imm, tru_imm, val_shr, val_own, val_own2, val_frz2, scalar, backOf, setSlot, lnt, lt, packL, isOwnL, b_listl]
  have g2 : execS (gN tab (k + 3)) [0, 1] ρ0 (.set 3 (.call false 7 (.cons (.var 2) (.cons (.blt .list (.cons (.var 1) .nil)) .nil)))) [.shr (.lst (il xs)), .shr (.lst (il ys)), .own (.lst (il xs)), .un, .un, .un] = .nx [.shr (.lst (il xs)), .shr (.lst (il ys)), .shr (.lst (il xs)), .own2 (.lst (W.map ol)), .un, .un] := by
    have e7' : (gN tab (k + 3)).call 7 [.shr (.lst (il xs)), .shr (.lst (il ys))] = .ok (.own2 (.lst (W.map ol))) .un := e7
    simp [execSs, execS, evalE, evalEs, evalOs, evalAs, evalIt, evalTe, evalOe, evalAnd, evalOr, getAll, argsOf, refOf, setBk, askV, peekV, readV, ↓bnd_tag, ↓out_tag, ↓seq_tag, tbnd_ok, tbnd_exc, tbnd_bad, tout_bad, tseq_bad, end_bad, tout_ok, tout_exc, tseq_nx, tseq_rt, tseq_ex, tseq_bk, tseq_ct, of_some, fin_val, fin_opd, fin_tst, end_nx, end_rt, end_ex, Opd.get, sv_imm, tru_imm, val_shr, val_own, val_own2, val_frz2, scalar, backOf, setSlot, lnt, lt, packL, isOwnL, b_listl, e7']
  have ln := b_lenl (W.map ol)
  rw [List.length_map, hL] at ln
  have lt' := b_lenl (pl (tu xs ys))
  rw [List.length_map, hmm] at lt'
  have nexs := ne_il xs xs
  have neys := ne_il ys ys
  have nei := ne_int ((m : Int) + 1) ((m : Int) + 1)
  have ln' : bltPV .len [.lst (W.map ol)] = some (.shr (.int ((m : Int) + 1))) := by rw [ln]; simp
  have bi := b_isl (W.map ol)
  have q0 : ∃ W', W.map ol = .lst (il xs) :: W' := ⟨_, by rw [h0]; rfl⟩
  have qn : idxPV (.lst (W.map ol)) (.int (m : Int)) = some (.lst (il ys)) := by
    show atP (W.map ol) (m : Int) = _
    unfold atP
    rw [if_pos (by omega)]
    simp [hlast]
  have e11' : (gN tab (k + 3)).call 11 [.shr (.lst (il xs)), .shr (.lst (il ys))] = .ok (.own (.lst (pl (tu xs ys)))) .un := e11
  generalize tu xs ys = T at *
  have e7t' : (gN tab (k + 3)).call 7 [.shr (.tup (il xs)), .shr (.lst (il ys))] = .ok (.own2 (.lst (W.map ol))) .un := e7t
  generalize hWo : W.map ol = Wo at *
  have g3 : execS (gN tab (k + 3)) [0, 1] ρ0 (.ife (.bor (.cons (.cmp .ne (.var 2) (.var 0)) (.cons (.bnot (.blt (.isi .list) (.cons (.var 3) .nil))) (.cons (.cmp .ne (.blt .len (.cons (.var 3) .nil)) (.bop .add (.blt .len (.cons (.call false 11 (.cons (.var 0) (.cons (.var 1) .nil))) .nil)) (.cst (.int 1)))) .nil)))) (.cons (.ret (.cst (.bl false))) .nil) .nil) [.shr (.lst (il xs)), .shr (.lst (il ys)), .shr (.lst (il xs)), .own2 (.lst Wo), .un, .un] = .nx [.shr (.lst (il xs)), .shr (.lst (il ys)), .shr (.lst (il xs)), .frz2 (.lst Wo), .un, .un] := by
    simp [execSs, execS, evalE, evalEs, evalOs, evalAs, evalIt, evalTe, evalOe, evalAnd, evalOr, getAll, argsOf, refOf, setBk, askV, peekV, readV, ↓bnd_tag, ↓out_tag, ↓seq_tag, tbnd_ok, tbnd_exc, tbnd_bad, tout_bad, tseq_bad, end_bad, tout_ok, tout_exc, tseq_nx, tseq_rt, tseq_ex, tseq_bk, tseq_ct, of_some, fin_val, fin_opd, fin_tst, end_nx, end_rt, end_ex, Opd.get, sv_imm, tru_imm, val_shr, val_own, val_own2, val_frz2, scalar, backOf, setSlot, lnt, lt, packL, isOwnL, truthP, nexs, bi, ln', lt', e11', bop_add, nei]
  have g4 : execS (gN tab (k + 3)) [0, 1] ρ0 (.set 4 (.blt .list (.cons (.var 0) .nil))) [.shr (.lst (il xs)), .shr (.lst (il ys)), .shr (.lst (il xs)), .frz2 (.lst Wo), .un, .un] = .nx [.shr (.lst (il xs)), .shr (.lst (il ys)), .shr (.lst (il xs)), .frz2 (.lst Wo), .own (.lst (il xs)), .un] := by
    simp [execSs, execS, evalE, evalEs, evalOs, evalAs, evalIt, evalTe, evalOe, evalAnd, evalOr, getAll, argsOf, refOf, setBk, askV, peekV, readV, ↓bnd_tag, ↓out_tag, ↓seq_tag, tbnd_ok, tbnd_exc, tbnd_bad, tout_bad, tseq_bad, end_bad, tout_ok, tout_exc, tseq_nx, tseq_rt, tseq_ex, tseq_bk, tseq_ct, of_some, fin_val, fin_opd, fin_tst, end_nx, end_rt, end_ex, Opd.get, sv_imm, tru_imm, val_shr, val_own, val_own2, val_frz2, scalar, backOf, setSlot, lnt, lt, packL, isOwnL, b_listl]
  have g5 : execS (gN tab (k + 3)) [0, 1] ρ0 q__law_way_right_2 [.shr (.lst (il xs)), .shr (.lst (il ys)), .shr (.lst (il xs)), .frz2 (.lst Wo), .own (.lst (il xs)), .un] = .nx [.shr (.lst (il xs)), .shr (.lst (il ys)), .shr (.lst (il xs)), .frz2 (.lst Wo), s4, s5] := by
    have it : evalIt (gN tab (k + 3)) (.seq (.var 3)) [.shr (.lst (il xs)), .shr (.lst (il ys)), .shr (.lst (il xs)), .frz2 (.lst Wo), .own (.lst (il xs)), .un] = .ok (Wo, []) [.shr (.lst (il xs)), .shr (.lst (il ys)), .shr (.lst (il xs)), .frz2 (.lst Wo), .own (.lst (il xs)), .un] := by simp [execSs, execS, evalE, evalEs, evalOs, evalAs, evalIt, evalTe, evalOe, evalAnd, evalOr, getAll, argsOf, refOf, setBk, askV, peekV, readV, ↓bnd_tag, ↓out_tag, ↓seq_tag, tbnd_ok, tbnd_exc, tbnd_bad, tout_bad, tseq_bad, end_bad, tout_ok, tout_exc, tseq_nx, tseq_rt, tseq_ex, tseq_bk, tseq_ct, of_some, fin_val, fin_opd, fin_tst, end_nx, end_rt, end_ex, Opd.get, sv_imm, tru_imm, val_shr, val_own, val_own2, val_frz2, scalar, backOf, setSlot, lnt, lt, packL, isOwnL, hidO]
    exact (ex_for it rfl).trans ((bak_nil _ _).trans lp)
  have sb := bop_sub ((m : Int) + 1) 1
  have sb2 : (m : Int) + 1 - 1 = m := by omega
  have g6 : execS (gN tab (k + 3)) [0, 1] ρ0 (.ife (.cmp .ne (.idx (.var 3) (.bop .sub (.blt .len (.cons (.var 3) .nil)) (.cst (.int 1)))) (.var 1)) (.cons (.ret (.cst (.bl false))) .nil) .nil) [.shr (.lst (il xs)), .shr (.lst (il ys)), .shr (.lst (il xs)), .frz2 (.lst Wo), s4, s5] = .nx [.shr (.lst (il xs)), .shr (.lst (il ys)), .shr (.lst (il xs)), .frz2 (.lst Wo), s4, s5] := by
    simp [execSs, execS, evalE, evalEs, evalOs, evalAs, evalIt, evalTe, evalOe, evalAnd, evalOr, getAll, argsOf, refOf, setBk, askV, peekV, readV, ↓bnd_tag, ↓out_tag, ↓seq_tag, tbnd_ok, tbnd_exc, tbnd_bad, tout_bad, tseq_bad, end_bad, tout_ok, tout_exc, tseq_nx, tseq_rt, tseq_ex, tseq_bk, tseq_ct, of_some, fin_val, fin_opd, fin_tst, end_nx, end_rt, end_ex, Opd.get, sv_imm, tru_imm, val_shr, val_own, val_own2, val_frz2, scalar, backOf, setSlot, lnt, lt, packL, isOwnL, truthP, ln', sb, sb2, qn, neys]
  obtain ⟨W', hW'⟩ := q0
  have g7 : execS (gN tab (k + 3)) [0, 1] ρ0 (.scrap 2 3) [.shr (.lst (il xs)), .shr (.lst (il ys)), .shr (.lst (il xs)), .frz2 (.lst Wo), s4, s5] = .nx [.shr (.lst (il xs)), .shr (.lst (il ys)), .un, .un, .un, .un] := by
    have lz : xs.length < 16777216 := by omega
    rw [hW', ← hρ0]
    simp [execSs, execS, evalE, evalEs, evalOs, evalAs, evalIt, evalTe, evalOe, evalAnd, evalOr, getAll, argsOf, refOf, setBk, askV, peekV, readV, ↓bnd_tag, ↓out_tag, ↓seq_tag, tbnd_ok, tbnd_exc, tbnd_bad, tout_bad, tseq_bad, end_bad, tout_ok, tout_exc, tseq_nx, tseq_rt, tseq_ex, tseq_bk, tseq_ct, of_some, fin_val, fin_opd, fin_tst, end_nx, end_rt, end_ex, Opd.get, sv_imm, tru_imm, val_shr, val_own, val_own2, val_frz2, scalar, backOf, setSlot, lnt, lt, packL, isOwnL, isShr, unAll, big, lz, List.range, List.range.loop]
  have g8 : execS (gN tab (k + 3)) [0, 1] ρ0 (.ret (.cmp .eq (.idx (.call false 7 (.cons (.blt .tuple (.cons (.var 0) .nil)) (.cons (.var 1) .nil))) (.cst (.int 0))) (.var 0))) [.shr (.lst (il xs)), .shr (.lst (il ys)), .un, .un, .un, .un] = .rt (.shr (.bl true)) [.shr (.lst (il xs)), .shr (.lst (il ys)), .un, .un, .un, .un] := by
    have i0 : idxPV (.lst Wo) (.int 0) = some (.lst (il xs)) := by rw [hW']; rfl
    have eq := eq_il xs xs
    simp [execSs, execS, evalE, evalEs, evalOs, evalAs, evalIt, evalTe, evalOe, evalAnd, evalOr, getAll, argsOf, refOf, setBk, askV, peekV, readV, ↓bnd_tag, ↓out_tag, ↓seq_tag, tbnd_ok, tbnd_exc, tbnd_bad, tout_bad, tseq_bad, end_bad, tout_ok, tout_exc, tseq_nx, tseq_rt, tseq_ex, tseq_bk, tseq_ct, of_some, fin_val, fin_opd, fin_tst, end_nx, end_rt, end_ex, Opd.get, sv_imm, tru_imm, val_shr, val_own, val_own2, val_frz2, scalar, backOf, setSlot, lnt, lt, packL, isOwnL, b_tuplel, e7t', i0, eq]
  have fin : execSs (gN tab (k + 3)) [0, 1] ρ0 d__law_way_right.body [.shr (.lst (il xs)), .shr (.lst (il ys)), .un, .un, .un, .un] = .rt (.shr (.bl true)) [.shr (.lst (il xs)), .shr (.lst (il ys)), .un, .un, .un, .un] := by
    unfold d__law_way_right
    dsimp only
    rw [one_more, g1, seq_nx, one_more, g2, seq_nx, one_more, g3, seq_nx, one_more, g4, seq_nx, one_more, g5, seq_nx, one_more, g6, seq_nx, one_more, g7, seq_nx, one_more, g8, seq_rt]
  subst hρ0
  exact (congrArg (endD none) fin).trans rfl
end K28
end KL
end
section
set_option linter.all false
set_option maxRecDepth 100000
/-! K28U: what the defs of k28 compute: refusals. -/
namespace KL
namespace K28
open PySem
abbrev no3 (b : PV) : PV := .lst [.str "no", b, .bl false]
theorem c7_bad (k : Nat) {t1 t2 : Bool} {xs ys : List Int} {q : PV} (hx : xs.length ≤ 1000) (h : chk xs.length [(t1, xs), (t2, ys)] = .exc q .un) : (gN tab (k + 3)).call 7 [.shr (sq t1 xs), .shr (sq t2 ys)] = .exc q .un := by
  have h1 := c1 (k) xs.length [(t1, xs), (t2, ys)] (by omega) (by omega)
  rw [h] at h1
  have h1 : (gN tab (k + 2)).call 1 [.shr (.int xs.length), .shr (.lst [sq t1 xs, sq t2 ys])] = .exc q .un := h1
  rw [cl]
  show runD (gN tab (k + 2)) d_exchange_way _ = _
  rw [runD_eq rfl]
  have e1 : ∀ ρ0, execS (gN tab (k + 2)) [] ρ0 (.exp (.call false 1 (.cons (.blt .len (.cons (.var 0) .nil)) (.cons (.lst false (.cons (.var 0) (.cons (.var 1) .nil))) .nil)))) [.shr (sq t1 xs), .shr (sq t2 ys), .un, .un, .un] = .ex q [.shr (sq t1 xs), .shr (sq t2 ys), .un, .un, .un] := by
    intro ρ0
    simp [execSs, execS, evalE, evalEs, evalOs, evalAs, evalIt, evalTe, evalOe, evalAnd, evalOr, getAll, argsOf, refOf, setBk, askV, peekV, readV, ↓bnd_tag, ↓out_tag, ↓seq_tag, tbnd_ok, tbnd_exc, tbnd_bad, tout_bad, tseq_bad, end_bad, tout_ok, tout_exc, tseq_nx, tseq_rt, tseq_ex, tseq_bk, tseq_ct, of_some, fin_val, fin_opd, fin_tst, end_nx, end_rt, end_ex, Opd.get, sv_imm, tru_imm, val_shr, val_own, val_own2, val_frz2, scalar, backOf, setSlot, lnt, lt, packL, isOwnL, b_len, h1, big]
  show endD none (execSs (gN tab (k + 2)) [] [.shr (sq t1 xs), .shr (sq t2 ys), .un, .un, .un] d_exchange_way.body [.shr (sq t1 xs), .shr (sq t2 ys), .un, .un, .un]) = _
  unfold d_exchange_way
  dsimp only
  rw [one_more, e1, seq_ex]
  rfl
theorem c3_bad (k : Nat) {t1 t2 : Bool} {xs ys : List Int} {q : PV} (hx : xs.length ≤ 1000) (h : chk xs.length [(t1, xs), (t2, ys)] = .exc q .un) : (gN tab (k + 3)).call 3 [.shr (sq t1 xs), .shr (sq t2 ys)] = .exc q .un := by
  rw [c3 k t1 t2 hx, h]
theorem c5_bad (k : Nat) {t1 t2 t3 : Bool} {o f s : List Int} {q : PV} (hx : o.length ≤ 1000) (h : chk o.length [(t1, o), (t2, f), (t3, s)] = .exc q .un) : (gN tab (k + 3)).call 5 [.shr (sq t1 o), .shr (sq t2 f), .shr (sq t3 s)] = .exc q .un := by
  rw [c5 k t1 t2 t3 hx, h]
theorem c16 (k : Nat) {A0 A1 A2 b : PV} {j : Int} (h : (j = 0 ∧ (gN tab (k + 3)).call 3 [.shr A0, .shr A1] = .exc (.obj 0 [b]) .un) ∨ (j = 1 ∧ (gN tab (k + 3)).call 7 [.shr A0, .shr A1] = .exc (.obj 0 [b]) .un) ∨ (j = 2 ∧ (gN tab (k + 3)).call 5 [.shr A0, .shr A1, .shr A2] = .exc (.obj 0 [b]) .un)) :
    (gN tab (k + 4)).call 16 [.shr (.int j), .shr (.lst [A0, A1, A2])] = .ok (.own (no3 b)) .un := by
  have i0 : idxPV (.lst [A0, A1, A2]) (.int 0) = some A0 := rfl
  have i1 : idxPV (.lst [A0, A1, A2]) (.int 1) = some A1 := rfl
  have i2 : idxPV (.lst [A0, A1, A2]) (.int 2) = some A2 := rfl
  rw [cl]
  show runD (gN tab (k + 3)) d__law_refused _ = _
  rw [runD_eq rfl]
  rcases h with ⟨rfl, h⟩ | ⟨rfl, h⟩ | ⟨rfl, h⟩
  · simp [execSs, execS, evalE, evalEs, evalOs, evalAs, evalIt, evalTe, evalOe, evalAnd, evalOr, getAll, argsOf, refOf, setBk, askV, peekV, readV, ↓bnd_tag, ↓out_tag, ↓seq_tag, tbnd_ok, tbnd_exc, tbnd_bad, tout_bad, tseq_bad, end_bad, tout_ok, tout_exc, tseq_nx, tseq_rt, tseq_ex, tseq_bk, tseq_ct, of_some, fin_val, fin_opd, fin_tst, end_nx, end_rt, end_ex, Opd.get, sv_imm, tru_imm, val_shr, val_own, val_own2, val_frz2, scalar, backOf, setSlot, lnt, lt, packL, isOwnL, d__law_refused, eq_int, truthP, i0, i1, h, tryEnd, hitV, big]
  · simp [execSs, execS, evalE, evalEs, evalOs, evalAs, evalIt, evalTe, evalOe, evalAnd, evalOr, getAll, argsOf, refOf, setBk, askV, peekV, readV, ↓bnd_tag, ↓out_tag, ↓seq_tag, tbnd_ok, tbnd_exc, tbnd_bad, tout_bad, tseq_bad, end_bad, tout_ok, tout_exc, tseq_nx, tseq_rt, tseq_ex, tseq_bk, tseq_ct, of_some, fin_val, fin_opd, fin_tst, end_nx, end_rt, end_ex, Opd.get, sv_imm, tru_imm, val_shr, val_own, val_own2, val_frz2, scalar, backOf, setSlot, lnt, lt, packL, isOwnL, d__law_refused, eq_int, truthP, i0, i1, h, tryEnd, hitV, big]
  · simp [execSs, execS, evalE, evalEs, evalOs, evalAs, evalIt, evalTe, evalOe, evalAnd, evalOr, getAll, argsOf, refOf, setBk, askV, peekV, readV, ↓bnd_tag, ↓out_tag, ↓seq_tag, tbnd_ok, tbnd_exc, tbnd_bad, tout_bad, tseq_bad, end_bad, tout_ok, tout_exc, tseq_nx, tseq_rt, tseq_ex, tseq_bk, tseq_ct, of_some, fin_val, fin_opd, fin_tst, end_nx, end_rt, end_ex, Opd.get, sv_imm, tru_imm, val_shr, val_own, val_own2, val_frz2, scalar, backOf, setSlot, lnt, lt, packL, isOwnL, d__law_refused, eq_int, truthP, i0, i1, i2, h, tryEnd, hitV, big]
/-! ### what is no order -/
structure Bad (n : Nat) (xs : List Int) : Prop where
  one : isOrd n xs = false
  own : isOrd xs.length xs = false
  len : xs.length ≤ 30
theorem mem_ranged {n : Nat} {x : Int} : x ∈ ranged n ↔ 1 ≤ x ∧ x ≤ n := by
  unfold ranged
  rw [List.mem_map]
  constructor
  · rintro ⟨k, hk, rfl⟩
    rw [List.mem_range] at hk
    omega
  · intro h
    exact ⟨(x - 1).toNat, by rw [List.mem_range]; omega, by omega⟩
theorem not_ord_len {n : Nat} {xs : List Int} (h : xs.length ≠ n) : isOrd n xs = false := by
  cases e : isOrd n xs with
  | false => rfl
  | true => exact absurd (by rw [((isOrd_iff _ _).mp e).length_eq, ranged_len]) h
theorem not_ord_mem {n : Nat} {xs : List Int} {x : Int} (hx : x ∈ xs) (h : x < 1 ∨ n < x) : isOrd n xs = false := by
  cases e : isOrd n xs with
  | false => rfl
  | true =>
    have := mem_ranged.mp (((isOrd_iff _ _).mp e).mem_iff.mp hx)
    omega
theorem not_ord_nd {n : Nat} {xs : List Int} (h : ¬ xs.Nodup) : isOrd n xs = false := by
  cases e : isOrd n xs with
  | false => rfl
  | true => exact absurd (((isOrd_iff _ _).mp e).nodup_iff.mpr (ranged_nodup _)) h
theorem c17 (k : Nat) {a b : Int} {n : Nat} {line : List Int} (p : Pot a b) (hl : Ord n line) (hn : n ≤ 20) : ∃ bad a' b', Bad n bad ∧ Pot a' b' ∧ (gN tab (k + 2)).call 17 [.own (pv a b), .shr (.lst (il line))] = .ok (.own (.lst (il bad))) (.own (pv a' b')) := by
  obtain ⟨v, a1, b1, v0, v1, p1, e1⟩ := c9 k p (n := 4) (by decide)
  have hlen := hl.len
  have bl := b_lenl (il line)
  rw [List.length_map, hlen] at bl
  rw [cl]
  show ∃ bad a' b', Bad n bad ∧ Pot a' b' ∧ runD (gN tab (k + 1)) d__law_bad _ = _
  rw [runD_eq rfl]
  show ∃ bad a' b', Bad n bad ∧ Pot a' b' ∧ endD (some 0) (execSs (gN tab (k + 1)) [0] [.own (pv a b), .shr (.lst (il line)), .un, .un] d__law_bad.body [.own (pv a b), .shr (.lst (il line)), .un, .un]) = _
  have f1 : ∀ ρ0, execS (gN tab (k + 1)) [0] ρ0 (.set 2 (.call false 9 (.cons (.var 0) (.cons (.cst (.int 4)) .nil)))) [.own (pv a b), .shr (.lst (il line)), .un, .un] = .nx [.own (pv a1 b1), .shr (.lst (il line)), .shr (.int v), .un] := by
    intro ρ0; simp [execSs, execS, evalE, evalEs, evalOs, evalAs, evalIt, evalTe, evalOe, evalAnd, evalOr, getAll, argsOf, refOf, setBk, askV, peekV, readV, ↓bnd_tag, ↓out_tag, ↓seq_tag, tbnd_ok, tbnd_exc, tbnd_bad, tout_bad, tseq_bad, end_bad, tout_ok, tout_exc, tseq_nx, tseq_rt, tseq_ex, tseq_bk, tseq_ct, of_some, fin_val, fin_opd, fin_tst, end_nx, end_rt, end_ex, Opd.get, sv_imm, tru_imm, val_shr, val_own, val_own2, val_frz2, scalar, backOf, setSlot, lnt, lt, packL, isOwnL, e1]
  unfold d__law_bad
  dsimp only
  rw [one_more, f1, seq_nx]
  by_cases hz : v = 0 ∨ line = []
  · -- one more
    have cc := bop_cat (xs := il line) (ys := [.int ((n : Int) + 2)]) (by simp; omega)
    have el : il line ++ [PV.int ((n : Int) + 2)] = il (line ++ [(n : Int) + 2]) := by simp [il]
    rw [el] at cc
    refine ⟨line ++ [(n : Int) + 2], a1, b1, ⟨not_ord_len (by simp; omega), not_ord_mem (x := (n : Int) + 2) (by simp) (.inr (by simp; omega)), by simp; omega⟩, p1, ?_⟩
    have f2 : ∀ ρ0, execS (gN tab (k + 1)) [0] ρ0 (.ife (.bor (.cons (.cmp .eq (.var 2) (.cst (.int 0))) (.cons (.bnot (.var 1)) .nil))) (.cons (.ret (.bop .add (.var 1) (.lst false (.cons (.bop .add (.blt .len (.cons (.var 1) .nil)) (.cst (.int 2))) .nil)))) .nil) .nil) [.own (pv a1 b1), .shr (.lst (il line)), .shr (.int v), .un] = .rt (.own (.lst (il (line ++ [(n : Int) + 2])))) [.own (pv a1 b1), .shr (.lst (il line)), .shr (.int v), .un] := by
      intro ρ0
      by_cases hv : v = 0
      · simp [-List.map_append, execSs, execS, evalE, evalEs, evalOs, evalAs, evalIt, evalTe, evalOe, evalAnd, evalOr, getAll, argsOf, refOf, setBk, askV, peekV, readV, ↓bnd_tag, ↓out_tag, ↓seq_tag, tbnd_ok, tbnd_exc, tbnd_bad, tout_bad, tseq_bad, end_bad, tout_ok, tout_exc, tseq_nx, tseq_rt, tseq_ex, tseq_bk, tseq_ct, of_some, fin_val, fin_opd, fin_tst, end_nx, end_rt, end_ex, Opd.get, sv_imm, tru_imm, val_shr, val_own, val_own2, val_frz2, scalar, backOf, setSlot, lnt, lt, packL, isOwnL, eq_int, truthP, hv, bl, bop_add, cc, big]
      · have hle : line = [] := hz.resolve_left hv
        have bl' := bl
        generalize line ++ [(n : Int) + 2] = bad at *
        subst hle
        simp [-List.map_append, execSs, execS, evalE, evalEs, evalOs, evalAs, evalIt, evalTe, evalOe, evalAnd, evalOr, getAll, argsOf, refOf, setBk, askV, peekV, readV, ↓bnd_tag, ↓out_tag, ↓seq_tag, tbnd_ok, tbnd_exc, tbnd_bad, tout_bad, tseq_bad, end_bad, tout_ok, tout_exc, tseq_nx, tseq_rt, tseq_ex, tseq_bk, tseq_ct, of_some, fin_val, fin_opd, fin_tst, end_nx, end_rt, end_ex, Opd.get, sv_imm, tru_imm, val_shr, val_own, val_own2, val_frz2, scalar, backOf, setSlot, lnt, lt, packL, isOwnL, eq_int, truthP, hv, big]
        simp at cc bl'
        simp [-List.map_append, execSs, execS, evalE, evalEs, evalOs, evalAs, evalIt, evalTe, evalOe, evalAnd, evalOr, getAll, argsOf, refOf, setBk, askV, peekV, readV, ↓bnd_tag, ↓out_tag, ↓seq_tag, tbnd_ok, tbnd_exc, tbnd_bad, tout_bad, tseq_bad, end_bad, tout_ok, tout_exc, tseq_nx, tseq_rt, tseq_ex, tseq_bk, tseq_ct, of_some, fin_val, fin_opd, fin_tst, end_nx, end_rt, end_ex, Opd.get, sv_imm, tru_imm, val_shr, val_own, val_own2, val_frz2, scalar, backOf, setSlot, lnt, lt, packL, isOwnL, bl', bop_add, cc]
    rw [one_more, f2, seq_rt]
    rfl
  · have hv : v ≠ 0 := fun e => hz (.inl e)
    have hne : line ≠ [] := fun e => hz (.inr e)
    have hn0 : 0 < n := by
      rw [← hlen]
      exact List.length_pos_iff.mpr hne
    obtain ⟨u, a2, b2, u0, u1, p2, e2⟩ := c9 k p1 (n := (n : Int)) (by omega)
    have hem : (il line).isEmpty = false := by
      cases line with
      | nil => exact absurd rfl hne
      | cons _ _ => rfl
    have f2 : ∀ ρ0 (a b : Sxs), execS (gN tab (k + 1)) [0] ρ0 (.ife (.bor (.cons (.cmp .eq (.var 2) (.cst (.int 0))) (.cons (.bnot (.var 1)) .nil))) a .nil) [.own (pv a1 b1), .shr (.lst (il line)), .shr (.int v), .un] = .nx [.own (pv a1 b1), .shr (.lst (il line)), .shr (.int v), .un] := by
      intro ρ0 a b
      simp [-List.isEmpty_map, -List.isEmpty_iff, -List.isEmpty_eq_false_iff, execSs, execS, evalE, evalEs, evalOs, evalAs, evalIt, evalTe, evalOe, evalAnd, evalOr, getAll, argsOf, refOf, setBk, askV, peekV, readV, ↓bnd_tag, ↓out_tag, ↓seq_tag, tbnd_ok, tbnd_exc, tbnd_bad, tout_bad, tseq_bad, end_bad, tout_ok, tout_exc, tseq_nx, tseq_rt, tseq_ex, tseq_bk, tseq_ct, of_some, fin_val, fin_opd, fin_tst, end_nx, end_rt, end_ex, Opd.get, sv_imm, tru_imm, val_shr, val_own, val_own2, val_frz2, scalar, backOf, setSlot, lnt, lt, packL, isOwnL, eq_int, truthP, hv, hem]
    have f3 : ∀ ρ0, execS (gN tab (k + 1)) [0] ρ0 (.set 3 (.call false 9 (.cons (.var 0) (.cons (.blt .len (.cons (.var 1) .nil)) .nil)))) [.own (pv a1 b1), .shr (.lst (il line)), .shr (.int v), .un] = .nx [.own (pv a2 b2), .shr (.lst (il line)), .shr (.int v), .shr (.int u)] := by
      intro ρ0; simp [execSs, execS, evalE, evalEs, evalOs, evalAs, evalIt, evalTe, evalOe, evalAnd, evalOr, getAll, argsOf, refOf, setBk, askV, peekV, readV, ↓bnd_tag, ↓out_tag, ↓seq_tag, tbnd_ok, tbnd_exc, tbnd_bad, tout_bad, tseq_bad, end_bad, tout_ok, tout_exc, tseq_nx, tseq_rt, tseq_ex, tseq_bk, tseq_ct, of_some, fin_val, fin_opd, fin_tst, end_nx, end_rt, end_ex, Opd.get, sv_imm, tru_imm, val_shr, val_own, val_own2, val_frz2, scalar, backOf, setSlot, lnt, lt, packL, isOwnL, bl, e2]
    rw [one_more, f2 _ _ .nil, seq_nx, one_more, f3, seq_nx]
    obtain ⟨t1, t2⟩ := cut_at line u0 (by omega)
    obtain ⟨t3, t4⟩ := cut_at line (v := u + 1) (by omega) (by omega)
    have rep : ∀ w : Int, bopPV .add (.lst (il (line.take u.toNat))) (.lst [.int w]) = some (.own (.lst (il (line.take u.toNat ++ [w])))) ∧ bopPV .add (.lst (il (line.take u.toNat ++ [w]))) (.lst (il (line.drop (u + 1).toNat))) = some (.own (.lst (il (line.take u.toNat ++ [w] ++ line.drop (u + 1).toNat)))) := fun w => by
      have q1 := bop_cat (xs := il (line.take u.toNat)) (ys := [.int w]) (by simp; omega)
      have q2 := bop_cat (xs := il (line.take u.toNat ++ [w])) (ys := il (line.drop (u + 1).toNat)) (by simp; omega)
      constructor
      · rw [q1]; simp [il]
      · rw [q2]; simp [il]
    have hw : ∀ w : Int, (line.take u.toNat ++ [w] ++ line.drop (u + 1).toNat).length = n := fun w => by simp; omega
    have wm : ∀ w : Int, w ∈ line.take u.toNat ++ [w] ++ line.drop (u + 1).toNat := fun w => by simp
    by_cases h1 : v = 1
    · obtain ⟨r1, r2⟩ := rep 0
      have hb : Bad n (line.take u.toNat ++ [0] ++ line.drop (u + 1).toNat) := ⟨not_ord_mem (wm 0) (.inl (by decide)), not_ord_mem (wm 0) (.inl (by decide)), by rw [hw]; omega⟩
      generalize line.take u.toNat ++ [0] ++ line.drop (u + 1).toNat = bad at *
      refine ⟨bad, a2, b2, hb, p2, ?_⟩
      generalize il (line.take u.toNat ++ [0]) = M at *
      generalize il (line.take u.toNat) = M1 at *
      generalize il (line.drop (u + 1).toNat) = M2 at *
      have f4 : ∀ ρ0 (b : Sxs), execSs (gN tab (k + 1)) [0] ρ0 (.cons (.ife (.cmp .eq (.var 2) (.cst (.int 1))) (.cons (.ret (.bop .add (.bop .add (.slc (.var 1) .no (.som (.var 3))) (.lst false (.cons (.cst (.int 0)) .nil))) (.slc (.var 1) (.som (.bop .add (.var 3) (.cst (.int 1)))) .no))) .nil) .nil) b) [.own (pv a2 b2), .shr (.lst (il line)), .shr (.int v), .shr (.int u)] = .rt (.own (.lst (il bad))) [.own (pv a2 b2), .shr (.lst (il line)), .shr (.int v), .shr (.int u)] := by
        intro ρ0 b
        rw [one_more]
        simp [execSs, execS, evalE, evalEs, evalOs, evalAs, evalIt, evalTe, evalOe, evalAnd, evalOr, getAll, argsOf, refOf, setBk, askV, peekV, readV, ↓bnd_tag, ↓out_tag, ↓seq_tag, tbnd_ok, tbnd_exc, tbnd_bad, tout_bad, tseq_bad, end_bad, tout_ok, tout_exc, tseq_nx, tseq_rt, tseq_ex, tseq_bk, tseq_ct, of_some, fin_val, fin_opd, fin_tst, end_nx, end_rt, end_ex, Opd.get, sv_imm, tru_imm, val_shr, val_own, val_own2, val_frz2, scalar, backOf, setSlot, lnt, lt, packL, isOwnL, eq_int, truthP, h1, slcPV, t1, t4, r1, r2, bop_add, big]
      rw [f4]
      rfl
    · have f4 : ∀ ρ0 (a b : Sxs), execSs (gN tab (k + 1)) [0] ρ0 (.cons (.ife (.cmp .eq (.var 2) (.cst (.int 1))) a .nil) b) [.own (pv a2 b2), .shr (.lst (il line)), .shr (.int v), .shr (.int u)] = execSs (gN tab (k + 1)) [0] ρ0 b [.own (pv a2 b2), .shr (.lst (il line)), .shr (.int v), .shr (.int u)] := by
        intro ρ0 a b
        rw [one_more]
        have : execS (gN tab (k + 1)) [0] ρ0 (.ife (.cmp .eq (.var 2) (.cst (.int 1))) a .nil) [.own (pv a2 b2), .shr (.lst (il line)), .shr (.int v), .shr (.int u)] = .nx [.own (pv a2 b2), .shr (.lst (il line)), .shr (.int v), .shr (.int u)] := by simp [execSs, execS, evalE, evalEs, evalOs, evalAs, evalIt, evalTe, evalOe, evalAnd, evalOr, getAll, argsOf, refOf, setBk, askV, peekV, readV, ↓bnd_tag, ↓out_tag, ↓seq_tag, tbnd_ok, tbnd_exc, tbnd_bad, tout_bad, tseq_bad, end_bad, tout_ok, tout_exc, tseq_nx, tseq_rt, tseq_ex, tseq_bk, tseq_ct, of_some, fin_val, fin_opd, fin_tst, end_nx, end_rt, end_ex, Opd.get, sv_imm, tru_imm, val_shr, val_own, val_own2, val_frz2, scalar, backOf, setSlot, lnt, lt, packL, isOwnL, eq_int, truthP, h1]
        rw [this, seq_nx]
      rw [f4]
      by_cases h2 : v = 2
      · obtain ⟨r1, r2⟩ := rep ((n : Int) + 1)
        have hb : Bad n (line.take u.toNat ++ [(n : Int) + 1] ++ line.drop (u + 1).toNat) := ⟨not_ord_mem (wm _) (.inr (by omega)), not_ord_mem (wm ((n : Int) + 1)) (.inr (by rw [hw]; omega)), by rw [hw]; omega⟩
        generalize line.take u.toNat ++ [(n : Int) + 1] ++ line.drop (u + 1).toNat = bad at *
        refine ⟨bad, a2, b2, hb, p2, ?_⟩
        generalize il (line.take u.toNat ++ [(n : Int) + 1]) = M at *
        generalize il (line.take u.toNat) = M1 at *
        generalize il (line.drop (u + 1).toNat) = M2 at *
        have f5 : ∀ ρ0 (b : Sxs), execSs (gN tab (k + 1)) [0] ρ0 (.cons (.ife (.cmp .eq (.var 2) (.cst (.int 2))) (.cons (.ret (.bop .add (.bop .add (.slc (.var 1) .no (.som (.var 3))) (.lst false (.cons (.bop .add (.blt .len (.cons (.var 1) .nil)) (.cst (.int 1))) .nil))) (.slc (.var 1) (.som (.bop .add (.var 3) (.cst (.int 1)))) .no))) .nil) .nil) b) [.own (pv a2 b2), .shr (.lst (il line)), .shr (.int v), .shr (.int u)] = .rt (.own (.lst (il bad))) [.own (pv a2 b2), .shr (.lst (il line)), .shr (.int v), .shr (.int u)] := by
          intro ρ0 b
          rw [one_more]
          simp [execSs, execS, evalE, evalEs, evalOs, evalAs, evalIt, evalTe, evalOe, evalAnd, evalOr, getAll, argsOf, refOf, setBk, askV, peekV, readV, ↓bnd_tag, ↓out_tag, ↓seq_tag, tbnd_ok, tbnd_exc, tbnd_bad, tout_bad, tseq_bad, end_bad, tout_ok, tout_exc, tseq_nx, tseq_rt, tseq_ex, tseq_bk, tseq_ct, of_some, fin_val, fin_opd, fin_tst, end_nx, end_rt, end_ex, Opd.get, sv_imm, tru_imm, val_shr, val_own, val_own2, val_frz2, scalar, backOf, setSlot, lnt, lt, packL, isOwnL, eq_int, truthP, h2, slcPV, t1, t4, r1, r2, bop_add, big, bl]
        rw [f5]
        rfl
      · have f5 : ∀ ρ0 (a b : Sxs), execSs (gN tab (k + 1)) [0] ρ0 (.cons (.ife (.cmp .eq (.var 2) (.cst (.int 2))) a .nil) b) [.own (pv a2 b2), .shr (.lst (il line)), .shr (.int v), .shr (.int u)] = execSs (gN tab (k + 1)) [0] ρ0 b [.own (pv a2 b2), .shr (.lst (il line)), .shr (.int v), .shr (.int u)] := by
          intro ρ0 a b
          rw [one_more]
          have : execS (gN tab (k + 1)) [0] ρ0 (.ife (.cmp .eq (.var 2) (.cst (.int 2))) a .nil) [.own (pv a2 b2), .shr (.lst (il line)), .shr (.int v), .shr (.int u)] = .nx [.own (pv a2 b2), .shr (.lst (il line)), .shr (.int v), .shr (.int u)] := by simp [execSs, execS, evalE, evalEs, evalOs, evalAs, evalIt, evalTe, evalOe, evalAnd, evalOr, getAll, argsOf, refOf, setBk, askV, peekV, readV, ↓bnd_tag, ↓out_tag, ↓seq_tag, tbnd_ok, tbnd_exc, tbnd_bad, tout_bad, tseq_bad, end_bad, tout_ok, tout_exc, tseq_nx, tseq_rt, tseq_ex, tseq_bk, tseq_ct, of_some, fin_val, fin_opd, fin_tst, end_nx, end_rt, end_ex, Opd.get, sv_imm, tru_imm, val_shr, val_own, val_own2, val_frz2, scalar, backOf, setSlot, lnt, lt, packL, isOwnL, eq_int, truthP, h2]
          rw [this, seq_nx]
        rw [f5]
        have hu : u.toNat < line.length := by omega
        have ia := at_il hu
        rw [show ((u.toNat : Nat) : Int) = u by omega] at ia
        have cc := bop_cat (xs := il line) (ys := [.int (line.getD u.toNat 0)]) (by simp; omega)
        have el : il line ++ [PV.int (line.getD u.toNat 0)] = il (line ++ [line.getD u.toNat 0]) := by simp [il]
        rw [el] at cc
        have hb : Bad n (line ++ [line.getD u.toNat 0]) := by
          have nd : ¬ (line ++ [line.getD u.toNat 0]).Nodup := fun h => (List.nodup_append.mp h).2.2 _ (getD_mem hu) _ (by simp) rfl
          exact ⟨not_ord_nd nd, not_ord_nd nd, by simp; omega⟩
        generalize line ++ [line.getD u.toNat 0] = bad at *
        generalize line.getD u.toNat 0 = z at *
        refine ⟨bad, a2, b2, hb, p2, ?_⟩
        generalize il line = L at *
        simp [execSs, execS, evalE, evalEs, evalOs, evalAs, evalIt, evalTe, evalOe, evalAnd, evalOr, getAll, argsOf, refOf, setBk, askV, peekV, readV, ↓bnd_tag, ↓out_tag, ↓seq_tag, tbnd_ok, tbnd_exc, tbnd_bad, tout_bad, tseq_bad, end_bad, tout_ok, tout_exc, tseq_nx, tseq_rt, tseq_ex, tseq_bk, tseq_ct, of_some, fin_val, fin_opd, fin_tst, end_nx, end_rt, end_ex, Opd.get, sv_imm, tru_imm, val_shr, val_own, val_own2, val_frz2, scalar, backOf, setSlot, lnt, lt, packL, isOwnL, ia, cc, big]
end K28
end KL
end
section
set_option linter.all false
set_option maxRecDepth 100000
/-! K28V: what the defs of k28 compute: the law. -/
namespace KL
namespace K28
open PySem
theorem ne_no3 (bad : List Int) : cmpPV .ne (no3 (.tup (il bad))) (no3 (.tup (il bad))) = some false := by
  have h1 : dOk 60 (no3 (.tup (il bad))) = true := by
    have e : dOk 59 (.str "no") = true := by decide +kernel
    simp only [no3, dOk, dOks, dOks_il, Bool.true_and, Bool.and_true]
    exact e
  have h2 : cmpb (no3 (.tup (il bad))) (no3 (.tup (il bad))) = true := by
    simp only [no3, cmpb, cmpbs, cmpbs_il, Bool.and_self]
  show (eqPV _ _).map _ = _
  unfold eqPV
  rw [h1, h2]
  simp
theorem eq_no3 (bad : List Int) : cmpPV .eq (no3 (.tup (il bad))) (no3 (.tup (il bad))) = some true := by
  have := ne_no3 bad
  have e : cmpPV .ne (no3 (.tup (il bad))) (no3 (.tup (il bad))) = (eqPV (no3 (.tup (il bad))) (no3 (.tup (il bad)))).map (!·) := rfl
  rw [e] at this
  show eqPV _ _ = _
  cases q : eqPV (no3 (.tup (il bad))) (no3 (.tup (il bad))) with
  | none => rw [q] at this; cases this
  | some x => rw [q] at this; cases x <;> simp_all
theorem copies {g : Gm} {a b c d e f s6 : SV} : ∀ {os : List (List Int)}, lcL (.one 7) [7] (fun ρ => (evalTe g q__law_bad_right_1 ρ).bnd fun b ρ => if b = true then (evalE g .val q__law_bad_right_2 ρ).bnd fun v ρ => .ok (some v.sv) ρ else .ok none ρ) (os.map ol) [a, b, c, d, e, f, s6, .un]
    = .ok (os.map fun o => .own (ol o)) [a, b, c, d, e, f, s6, .un]
  | [] => rfl
  | o :: os => by
    refine (lc_cons (ρ1 := [a, b, c, d, e, f, s6, .shr (ol o)]) (o := some (.own (ol o))) (ρ2 := [a, b, c, d, e, f, s6, .shr (ol o)]) rfl ?_ copies).trans (by simp)
    simp [execSs, execS, evalE, evalEs, evalOs, evalAs, evalIt, evalTe, evalOe, evalAnd, evalOr, getAll, argsOf, refOf, setBk, askV, peekV, readV, ↓bnd_tag, ↓out_tag, ↓seq_tag, tbnd_ok, tbnd_exc, tbnd_bad, tout_bad, tseq_bad, end_bad, tout_ok, tout_exc, tseq_nx, tseq_rt, tseq_ex, tseq_bk, tseq_ct, of_some, fin_val, fin_opd, fin_tst, end_nx, end_rt, end_ex, Opd.get, sv_imm, tru_imm, val_shr, val_own, val_own2, val_frz2, scalar, backOf, setSlot, lnt, lt, packL, isOwnL, q__law_bad_right_1, q__law_bad_right_2, b_listl]
theorem kinds_loop (k : Nat) (ρ0 : Rho) {p L s2 s3 : SV} {os : List (List Int)} {bad : List Int} (hz : os.length ≤ 10) : ∀ {js : List Int} (s6 : SV), (∀ j ∈ js, (gN tab (k + 4)).call 16 [.shr (.int j), .shr (.lst (os.map ol))] = .ok (.own (no3 (.tup (il bad)))) .un) → ∃ s6',
    forL (.one 6) (fun ρ' => execSs (gN tab (k + 4)) [0] ρ0 q__law_bad_right_4 ρ') (il js) [p, L, s2, s3, .shr (.lst (os.map ol)), .own (no3 (.tup (il bad))), s6, .un] = .nx [p, L, s2, s3, .shr (.lst (os.map ol)), .own (no3 (.tup (il bad))), s6', .un]
  | [], s6, _ => ⟨s6, rfl⟩
  | j :: js, s6, h => by
    have hj := h j (by simp)
    obtain ⟨s6', r⟩ := kinds_loop k ρ0 (p := p) (L := L) (s2 := s2) (s3 := s3) (bad := bad) hz (js := js) (.shr (.int j)) fun z hz => h z (by simp [hz])
    refine ⟨s6', (for_nx rfl ?_).trans r⟩
    let R : Rho := [p, L, s2, s3, .shr (.lst (os.map ol)), .own (no3 (.tup (il bad))), .shr (.int j), .un]
    have it : evalIt (gN tab (k + 4)) (.seq (.var 4)) R = .ok (os.map ol, []) R := by simp [execSs, execS, evalE, evalEs, evalOs, evalAs, evalIt, evalTe, evalOe, evalAnd, evalOr, getAll, argsOf, refOf, setBk, askV, peekV, readV, ↓bnd_tag, ↓out_tag, ↓seq_tag, tbnd_ok, tbnd_exc, tbnd_bad, tout_bad, tseq_bad, end_bad, tout_ok, tout_exc, tseq_nx, tseq_rt, tseq_ex, tseq_bk, tseq_ct, of_some, fin_val, fin_opd, fin_tst, end_nx, end_rt, end_ex, Opd.get, sv_imm, tru_imm, val_shr, val_own, val_own2, val_frz2, scalar, backOf, setSlot, lnt, lt, packL, isOwnL, hidO, R]
    have l : (os.map ol).length ≤ big := by simp [big]; omega
    have ev : evalE (gN tab (k + 4)) .val q__law_bad_right_3 R = _ := ev_lc (m := .val) (by decide) it (own := [7]) (by simp [notOwn, apart, R]; simpa using l) (copies (os := os))
    have eb : (os.map fun o => SV.own (ol o)).map SV.val = os.map ol := by simp [val_own]
    rw [eb] at ev
    have nn := ne_no3 bad
    simp only [R] at ev
    generalize os.map ol = O at *
    show execSs (gN tab (k + 4)) [0] ρ0 q__law_bad_right_4 [p, L, s2, s3, .shr (.lst O), .own (no3 (.tup (il bad))), .shr (.int j), .un] = _
    generalize no3 (.tup (il bad)) = T at *
    simp [execSs, execS, evalE, evalEs, evalOs, evalAs, evalIt, evalTe, evalOe, evalAnd, evalOr, getAll, argsOf, refOf, setBk, askV, peekV, readV, ↓bnd_tag, ↓out_tag, ↓seq_tag, tbnd_ok, tbnd_exc, tbnd_bad, tout_bad, tseq_bad, end_bad, tout_ok, tout_exc, tseq_nx, tseq_rt, tseq_ex, tseq_bk, tseq_ct, of_some, fin_val, fin_opd, fin_tst, end_nx, end_rt, end_ex, Opd.get, sv_imm, tru_imm, val_shr, val_own, val_own2, val_frz2, scalar, backOf, setSlot, lnt, lt, packL, isOwnL, q__law_bad_right_4, ev, backR, hj, nn, truthP]
theorem chk_first {n : Int} {t : Bool} {xs : List Int} {r : List (Bool × List Int)} (h : isOrd n xs = false) : chk n ((t, xs) :: r) = .exc (.obj 0 [.tup (il xs)]) .un := by
  unfold chk; simp [List.find?_cons, h]
theorem chk_next {n : Int} {t : Bool} {xs : List Int} {r : List (Bool × List Int)} (h : isOrd n xs = true) : chk n ((t, xs) :: r) = chk n r := by
  unfold chk; simp [List.find?_cons, h]
theorem bad_turn (k : Nat) (ρ0 : Rho) {a b : Int} {l0 l1 l2 bad : List Int} (p : Pot a b) (i : Nat) (hi : i < 3) (s2 s4 s5 s6 : SV) (hs2 : isL s2 bad)
    (h : ∀ j ∈ (if i = 2 then [2] else [0, 1, 2] : List Int), (gN tab (k + 4)).call 16 [.shr (.int j), .shr (.lst (([l0, l1, l2].set i bad).map ol))] = .ok (.own (no3 (.tup (il bad)))) .un) :
    ∃ a' b' s4' s5' s6', Pot a' b' ∧ execSs (gN tab (k + 4)) [0] ρ0 q__law_bad_right_6 [.own (pv a b), .shr (.lst [ol l0, ol l1, ol l2]), s2, .shr (.int i), s4, s5, s6, .un] = .nx [.own (pv a' b'), .shr (.lst [ol l0, ol l1, ol l2]), .shr (ol bad), .shr (.int i), s4', s5', s6', .un] := by
  obtain ⟨v, a1, b1, v0, v1, p1, e9⟩ := c9 (k + 3) p (n := 2) (by decide)
  have eset : ([l0, l1, l2].set i bad).map ol = [ol l0, ol l1, ol l2].set i (ol bad) := by
    match i, hi with
    | 0, _ => rfl
    | 1, _ => rfl
    | 2, _ => rfl
  have hz : ([l0, l1, l2].set i bad).length ≤ 10 := by simp
  have f1 : ∀ s2, execS (gN tab (k + 4)) [0] ρ0 (.set 4 (.blt .list (.cons (.var 1) .nil))) [.own (pv a b), .shr (.lst [ol l0, ol l1, ol l2]), s2, .shr (.int i), s4, s5, s6, .un] = .nx [.own (pv a b), .shr (.lst [ol l0, ol l1, ol l2]), s2, .shr (.int i), .own (.lst [ol l0, ol l1, ol l2]), s5, s6, .un] := by
    intro s2; simp [execSs, execS, evalE, evalEs, evalOs, evalAs, evalIt, evalTe, evalOe, evalAnd, evalOr, getAll, argsOf, refOf, setBk, askV, peekV, readV, ↓bnd_tag, ↓out_tag, ↓seq_tag, tbnd_ok, tbnd_exc, tbnd_bad, tout_bad, tseq_bad, end_bad, tout_ok, tout_exc, tseq_nx, tseq_rt, tseq_ex, tseq_bk, tseq_ct, of_some, fin_val, fin_opd, fin_tst, end_nx, end_rt, end_ex, Opd.get, sv_imm, tru_imm, val_shr, val_own, val_own2, val_frz2, scalar, backOf, setSlot, lnt, lt, packL, isOwnL, b_listl]
  have f2 : execS (gN tab (k + 4)) [0] ρ0 (.setix 4 (.var 3) (.var 2)) [.own (pv a b), .shr (.lst [ol l0, ol l1, ol l2]), s2, .shr (.int i), .own (.lst [ol l0, ol l1, ol l2]), s5, s6, .un] = .nx [.own (pv a b), .shr (.lst [ol l0, ol l1, ol l2]), .shr (ol bad), .shr (.int i), .own (.lst (([l0, l1, l2].set i bad).map ol)), s5, s6, .un] := by
    have c1 : (0 : Int) ≤ i ∧ (i : Int) < 3 := by omega
    rw [eset]
    have su : setIx (.int i) (ol bad) (.lst [ol l0, ol l1, ol l2]) = some (.lst ([ol l0, ol l1, ol l2].set i (ol bad))) := by
      show (if (0 : Int) ≤ i ∧ (i : Int) < ([ol l0, ol l1, ol l2].length : Nat) then some (PV.lst ([ol l0, ol l1, ol l2].set (i : Int).toNat (ol bad))) else none) = _
      rw [if_pos (by simp; omega)]
      simp
    generalize ([ol l0, ol l1, ol l2].set i (ol bad)) = O at *
    generalize ([ol l0, ol l1, ol l2] : List PV) = L at *
    rcases hs2 with rfl | rfl
    · simp [execSs, execS, evalE, evalEs, evalOs, evalAs, evalIt, evalTe, evalOe, evalAnd, evalOr, getAll, argsOf, refOf, setBk, askV, peekV, readV, ↓bnd_tag, ↓out_tag, ↓seq_tag, tbnd_ok, tbnd_exc, tbnd_bad, tout_bad, tseq_bad, end_bad, tout_ok, tout_exc, tseq_nx, tseq_rt, tseq_ex, tseq_bk, tseq_ct, of_some, fin_val, fin_opd, fin_tst, end_nx, end_rt, end_ex, Opd.get, sv_imm, tru_imm, val_shr, val_own, val_own2, val_frz2, scalar, backOf, setSlot, lnt, lt, packL, isOwnL, isOwnAt, setOwn, su]
    · simp [execSs, execS, evalE, evalEs, evalOs, evalAs, evalIt, evalTe, evalOe, evalAnd, evalOr, getAll, argsOf, refOf, setBk, askV, peekV, readV, ↓bnd_tag, ↓out_tag, ↓seq_tag, tbnd_ok, tbnd_exc, tbnd_bad, tout_bad, tseq_bad, end_bad, tout_ok, tout_exc, tseq_nx, tseq_rt, tseq_ex, tseq_bk, tseq_ct, of_some, fin_val, fin_opd, fin_tst, end_nx, end_rt, end_ex, Opd.get, sv_imm, tru_imm, val_shr, val_own, val_own2, val_frz2, scalar, backOf, setSlot, lnt, lt, packL, isOwnL, isOwnAt, setOwn, su]
  generalize hO : ([l0, l1, l2].set i bad).map ol = O at *
  generalize hL : ([ol l0, ol l1, ol l2] : List PV) = L at *
  have f3 : execS (gN tab (k + 4)) [0] ρ0 (.set 5 (.lst false (.cons (.cst (.str "no")) (.cons (.blt .tuple (.cons (.var 2) .nil)) (.cons (.cst (.bl false)) .nil))))) [.own (pv a b), .shr (.lst L), .shr (ol bad), .shr (.int i), .own (.lst O), s5, s6, .un] = .nx [.own (pv a b), .shr (.lst L), .shr (ol bad), .shr (.int i), .own (.lst O), .own (no3 (.tup (il bad))), s6, .un] := by
    simp [execSs, execS, evalE, evalEs, evalOs, evalAs, evalIt, evalTe, evalOe, evalAnd, evalOr, getAll, argsOf, refOf, setBk, askV, peekV, readV, ↓bnd_tag, ↓out_tag, ↓seq_tag, tbnd_ok, tbnd_exc, tbnd_bad, tout_bad, tseq_bad, end_bad, tout_ok, tout_exc, tseq_nx, tseq_rt, tseq_ex, tseq_bk, tseq_ct, of_some, fin_val, fin_opd, fin_tst, end_nx, end_rt, end_ex, Opd.get, sv_imm, tru_imm, val_shr, val_own, val_own2, val_frz2, scalar, backOf, setSlot, lnt, lt, packL, isOwnL, b_tuplel, big]
  -- the inner loop
  have inner : ∀ q : SV, ∃ s6', execSs (gN tab (k + 4)) [0] ρ0 (.cons (.frz 4) (.cons q__law_bad_right_5 .nil)) [q, .shr (.lst L), .shr (ol bad), .shr (.int i), .own (.lst O), .own (no3 (.tup (il bad))), s6, .un] = .nx [q, .shr (.lst L), .shr (ol bad), .shr (.int i), .shr (.lst O), .own (no3 (.tup (il bad))), s6', .un] := by
    intro q
    obtain ⟨s6', r⟩ := kinds_loop k ρ0 (p := q) (L := .shr (.lst L)) (s2 := .shr (ol bad)) (s3 := .shr (.int i)) (os := [l0, l1, l2].set i bad) (bad := bad) hz (js := if i = 2 then [2] else [0, 1, 2]) s6 (by rw [hO]; exact h)
    refine ⟨s6', ?_⟩
    have g1 : execS (gN tab (k + 4)) [0] ρ0 (.frz 4) [q, .shr (.lst L), .shr (ol bad), .shr (.int i), .own (.lst O), .own (no3 (.tup (il bad))), s6, .un] = .nx [q, .shr (.lst L), .shr (ol bad), .shr (.int i), .shr (.lst O), .own (no3 (.tup (il bad))), s6, .un] := by simp [execSs, execS, evalE, evalEs, evalOs, evalAs, evalIt, evalTe, evalOe, evalAnd, evalOr, getAll, argsOf, refOf, setBk, askV, peekV, readV, ↓bnd_tag, ↓out_tag, ↓seq_tag, tbnd_ok, tbnd_exc, tbnd_bad, tout_bad, tseq_bad, end_bad, tout_ok, tout_exc, tseq_nx, tseq_rt, tseq_ex, tseq_bk, tseq_ct, of_some, fin_val, fin_opd, fin_tst, end_nx, end_rt, end_ex, Opd.get, sv_imm, tru_imm, val_shr, val_own, val_own2, val_frz2, scalar, backOf, setSlot, lnt, lt, packL, isOwnL]
    have g2 : execS (gN tab (k + 4)) [0] ρ0 q__law_bad_right_5 [q, .shr (.lst L), .shr (ol bad), .shr (.int i), .shr (.lst O), .own (no3 (.tup (il bad))), s6, .un] = .nx [q, .shr (.lst L), .shr (ol bad), .shr (.int i), .shr (.lst O), .own (no3 (.tup (il bad))), s6', .un] := by
      have lo : evalE (gN tab (k + 4)) .opd (.ife (.cmp .eq (.var 3) (.cst (.int 2))) (.cst (.int 2)) (.cst (.int 0))) [q, .shr (.lst L), .shr (ol bad), .shr (.int i), .shr (.lst O), .own (no3 (.tup (il bad))), s6, .un] = .ok (.imm (.shr (.int (if i = 2 then 2 else 0)))) [q, .shr (.lst L), .shr (ol bad), .shr (.int i), .shr (.lst O), .own (no3 (.tup (il bad))), s6, .un] := by
        by_cases e : i = 2
        · subst e; simp [execSs, execS, evalE, evalEs, evalOs, evalAs, evalIt, evalTe, evalOe, evalAnd, evalOr, getAll, argsOf, refOf, setBk, askV, peekV, readV, ↓bnd_tag, ↓out_tag, ↓seq_tag, tbnd_ok, tbnd_exc, tbnd_bad, tout_bad, tseq_bad, end_bad, tout_ok, tout_exc, tseq_nx, tseq_rt, tseq_ex, tseq_bk, tseq_ct, of_some, fin_val, fin_opd, fin_tst, end_nx, end_rt, end_ex, Opd.get, sv_imm, tru_imm, val_shr, val_own, val_own2, val_frz2, scalar, backOf, setSlot, lnt, lt, packL, isOwnL, eq_int, truthP]
        · have e' : ¬ ((i : Int) = 2) := by omega
          simp [execSs, execS, evalE, evalEs, evalOs, evalAs, evalIt, evalTe, evalOe, evalAnd, evalOr, getAll, argsOf, refOf, setBk, askV, peekV, readV, ↓bnd_tag, ↓out_tag, ↓seq_tag, tbnd_ok, tbnd_exc, tbnd_bad, tout_bad, tseq_bad, end_bad, tout_ok, tout_exc, tseq_nx, tseq_rt, tseq_ex, tseq_bk, tseq_ct, of_some, fin_val, fin_opd, fin_tst, end_nx, end_rt, end_ex, Opd.get, sv_imm, tru_imm, val_shr, val_own, val_own2, val_frz2, scalar, backOf, setSlot, lnt, lt, packL, isOwnL, eq_int, truthP, e, e']
      have it := ev_rng2 (g := gN tab (k + 4)) (b := .cst (.int 3)) (j := 3) lo (by simp [execSs, execS, evalE, evalEs, evalOs, evalAs, evalIt, evalTe, evalOe, evalAnd, evalOr, getAll, argsOf, refOf, setBk, askV, peekV, readV, ↓bnd_tag, ↓out_tag, ↓seq_tag, tbnd_ok, tbnd_exc, tbnd_bad, tout_bad, tseq_bad, end_bad, tout_ok, tout_exc, tseq_nx, tseq_rt, tseq_ex, tseq_bk, tseq_ct, of_some, fin_val, fin_opd, fin_tst, end_nx, end_rt, end_ex, Opd.get, sv_imm, tru_imm, val_shr, val_own, val_own2, val_frz2, scalar, backOf, setSlot, lnt, lt, packL, isOwnL]) (by split <;> omega) (by split <;> omega) (by omega) (by omega)
      have er : rngPV (if i = 2 then 2 else 0) ((3 : Int) - (if i = 2 then 2 else 0)).toNat = il (if i = 2 then [2] else [0, 1, 2]) := by
        split <;> rfl
      rw [er] at it
      rw [hO] at r
      exact (ex_for it rfl).trans ((bak_nil _ _).trans r)
    rw [one_more, g1, seq_nx, one_more, g2, seq_nx, no_more]
  unfold q__law_bad_right_6
  rw [one_more, f1, seq_nx, one_more, f2, seq_nx, one_more, f3, seq_nx, one_more]
  generalize hB : Sxs.cons (.frz 4) (.cons q__law_bad_right_5 .nil) = Bd at *
  by_cases hp : 0 < i
  · obtain ⟨s6', r⟩ := inner (.own (pv a b))
    refine ⟨a, b, .shr (.lst O), .own (no3 (.tup (il bad))), s6', p, ?_⟩
    have hp' : (0 : Int) < i := by omega
    have g : execS (gN tab (k + 4)) [0] ρ0 (.ife (.bor (.cons (.cmp .gt (.var 3) (.cst (.int 0))) (.cons (.cmp .eq (.call false 9 (.cons (.var 0) (.cons (.cst (.int 2)) .nil))) (.cst (.int 0))) .nil))) Bd .nil) [.own (pv a b), .shr (.lst L), .shr (ol bad), .shr (.int i), .own (.lst O), .own (no3 (.tup (il bad))), s6, .un] = execSs (gN tab (k + 4)) [0] ρ0 Bd [.own (pv a b), .shr (.lst L), .shr (ol bad), .shr (.int i), .own (.lst O), .own (no3 (.tup (il bad))), s6, .un] := by
      simp [execSs, execS, evalE, evalEs, evalOs, evalAs, evalIt, evalTe, evalOe, evalAnd, evalOr, getAll, argsOf, refOf, setBk, askV, peekV, readV, ↓bnd_tag, ↓out_tag, ↓seq_tag, tbnd_ok, tbnd_exc, tbnd_bad, tout_bad, tseq_bad, end_bad, tout_ok, tout_exc, tseq_nx, tseq_rt, tseq_ex, tseq_bk, tseq_ct, of_some, fin_val, fin_opd, fin_tst, end_nx, end_rt, end_ex, Opd.get, sv_imm, tru_imm, val_shr, val_own, val_own2, val_frz2, scalar, backOf, setSlot, lnt, lt, packL, isOwnL, gt_int, truthP, hp]
    rw [g, r, seq_nx, no_more]
  · have hp' : ¬ (0 : Int) < i := by omega
    have e9' : (gN tab (k + 4)).call 9 [.own (pv a b), .shr (.int 2)] = .ok (.shr (.int v)) (.own (pv a1 b1)) := e9
    by_cases hv : v = 0
    · obtain ⟨s6', r⟩ := inner (.own (pv a1 b1))
      refine ⟨a1, b1, .shr (.lst O), .own (no3 (.tup (il bad))), s6', p1, ?_⟩
      have g : execS (gN tab (k + 4)) [0] ρ0 (.ife (.bor (.cons (.cmp .gt (.var 3) (.cst (.int 0))) (.cons (.cmp .eq (.call false 9 (.cons (.var 0) (.cons (.cst (.int 2)) .nil))) (.cst (.int 0))) .nil))) Bd .nil) [.own (pv a b), .shr (.lst L), .shr (ol bad), .shr (.int i), .own (.lst O), .own (no3 (.tup (il bad))), s6, .un] = execSs (gN tab (k + 4)) [0] ρ0 Bd [.own (pv a1 b1), .shr (.lst L), .shr (ol bad), .shr (.int i), .own (.lst O), .own (no3 (.tup (il bad))), s6, .un] := by
        simp [execSs, execS, evalE, evalEs, evalOs, evalAs, evalIt, evalTe, evalOe, evalAnd, evalOr, getAll, argsOf, refOf, setBk, askV, peekV, readV, ↓bnd_tag, ↓out_tag, ↓seq_tag, tbnd_ok, tbnd_exc, tbnd_bad, tout_bad, tseq_bad, end_bad, tout_ok, tout_exc, tseq_nx, tseq_rt, tseq_ex, tseq_bk, tseq_ct, of_some, fin_val, fin_opd, fin_tst, end_nx, end_rt, end_ex, Opd.get, sv_imm, tru_imm, val_shr, val_own, val_own2, val_frz2, scalar, backOf, setSlot, lnt, lt, packL, isOwnL, gt_int, eq_int, truthP, hp, e9', hv]
      rw [g, r, seq_nx, no_more]
    · refine ⟨a1, b1, .own (.lst O), .own (no3 (.tup (il bad))), s6, p1, ?_⟩
      have g : execS (gN tab (k + 4)) [0] ρ0 (.ife (.bor (.cons (.cmp .gt (.var 3) (.cst (.int 0))) (.cons (.cmp .eq (.call false 9 (.cons (.var 0) (.cons (.cst (.int 2)) .nil))) (.cst (.int 0))) .nil))) Bd .nil) [.own (pv a b), .shr (.lst L), .shr (ol bad), .shr (.int i), .own (.lst O), .own (no3 (.tup (il bad))), s6, .un] = .nx [.own (pv a1 b1), .shr (.lst L), .shr (ol bad), .shr (.int i), .own (.lst O), .own (no3 (.tup (il bad))), s6, .un] := by
        simp [execSs, execS, evalE, evalEs, evalOs, evalAs, evalIt, evalTe, evalOe, evalAnd, evalOr, getAll, argsOf, refOf, setBk, askV, peekV, readV, ↓bnd_tag, ↓out_tag, ↓seq_tag, tbnd_ok, tbnd_exc, tbnd_bad, tout_bad, tseq_bad, end_bad, tout_ok, tout_exc, tseq_nx, tseq_rt, tseq_ex, tseq_bk, tseq_ct, of_some, fin_val, fin_opd, fin_tst, end_nx, end_rt, end_ex, Opd.get, sv_imm, tru_imm, val_shr, val_own, val_own2, val_frz2, scalar, backOf, setSlot, lnt, lt, packL, isOwnL, gt_int, eq_int, truthP, hp, e9', hv]
      rw [g, seq_nx, no_more]
theorem c18 (k : Nat) {a b : Int} {n : Nat} {l0 l1 l2 : List Int} (p : Pot a b) (h0 : Ord n l0) (h1 : Ord n l1) (h2 : Ord n l2) (hn : n ≤ 20) : ∃ bk, (gN tab (k + 5)).call 18 [.own (pv a b), .shr (.lst [ol l0, ol l1, ol l2])] = .ok (.shr (.bl true)) bk := by
  obtain ⟨bad, a1, b1, hb, p1, e17⟩ := c17 (k + 2) p h0 hn
  have hl0 := h0.len
  have hbl := hb.len
  -- what is refused
  have r0 : ∀ j ∈ ([0, 1, 2] : List Int), (gN tab (k + 4)).call 16 [.shr (.int j), .shr (.lst (([l0, l1, l2].set 0 bad).map ol))] = .ok (.own (no3 (.tup (il bad)))) .un := by
    intro j hj
    refine c16 k (A0 := ol bad) (A1 := ol l1) (A2 := ol l2) ?_
    simp only [List.mem_cons, List.not_mem_nil, or_false] at hj
    rcases hj with rfl | rfl | rfl
    · exact .inl ⟨rfl, c3_bad k (t1 := false) (t2 := false) (by omega) (chk_first hb.own)⟩
    · exact .inr (.inl ⟨rfl, c7_bad k (t1 := false) (t2 := false) (by omega) (chk_first hb.own)⟩)
    · exact .inr (.inr ⟨rfl, c5_bad k (t1 := false) (t2 := false) (t3 := false) (by omega) (chk_first hb.own)⟩)
  have r1 : ∀ j ∈ ([0, 1, 2] : List Int), (gN tab (k + 4)).call 16 [.shr (.int j), .shr (.lst (([l0, l1, l2].set 1 bad).map ol))] = .ok (.own (no3 (.tup (il bad)))) .un := by
    intro j hj
    refine c16 k (A0 := ol l0) (A1 := ol bad) (A2 := ol l2) ?_
    simp only [List.mem_cons, List.not_mem_nil, or_false] at hj
    rcases hj with rfl | rfl | rfl
    · exact .inl ⟨rfl, c3_bad k (t1 := false) (t2 := false) (by omega) (by rw [hl0, chk_next h0.is]; exact chk_first hb.one)⟩
    · exact .inr (.inl ⟨rfl, c7_bad k (t1 := false) (t2 := false) (by omega) (by rw [hl0, chk_next h0.is]; exact chk_first hb.one)⟩)
    · exact .inr (.inr ⟨rfl, c5_bad k (t1 := false) (t2 := false) (t3 := false) (by omega) (by rw [hl0, chk_next h0.is]; exact chk_first hb.one)⟩)
  have r2 : ∀ j ∈ ([2] : List Int), (gN tab (k + 4)).call 16 [.shr (.int j), .shr (.lst (([l0, l1, l2].set 2 bad).map ol))] = .ok (.own (no3 (.tup (il bad)))) .un := by
    intro j hj
    refine c16 k (A0 := ol l0) (A1 := ol l1) (A2 := ol bad) ?_
    simp only [List.mem_cons, List.not_mem_nil, or_false] at hj
    subst hj
    exact .inr (.inr ⟨rfl, c5_bad k (t1 := false) (t2 := false) (t3 := false) (by omega) (by rw [hl0, chk_next h0.is, chk_next h1.is]; exact chk_first hb.one)⟩)
  have r3 : (gN tab (k + 4)).call 16 [.shr (.int 2), .shr (.lst [ol l0, .tup (il bad), .lst (il (bad ++ [0]))])] = .ok (.own (no3 (.tup (il bad)))) .un :=
    c16 k (.inr (.inr ⟨rfl, c5_bad k (t1 := false) (t2 := true) (t3 := false) (by omega) (by rw [hl0, chk_next h0.is]; exact chk_first hb.one)⟩))
  rw [cl]
  show ∃ bk, runD (gN tab (k + 4)) d__law_bad_right _ = _
  rw [runD_eq rfl]
  let ρ0 : Rho := [.own (pv a b), .shr (.lst [ol l0, ol l1, ol l2]), .un, .un, .un, .un, .un, .un]
  have f1 : execS (gN tab (k + 4)) [0] ρ0 (.set 2 (.call false 17 (.cons (.var 0) (.cons (.idx (.var 1) (.cst (.int 0))) .nil)))) [.own (pv a b), .shr (.lst [ol l0, ol l1, ol l2]), .un, .un, .un, .un, .un, .un] = .nx [.own (pv a1 b1), .shr (.lst [ol l0, ol l1, ol l2]), .own (ol bad), .un, .un, .un, .un, .un] := by
    have i0 : idxPV (.lst [ol l0, ol l1, ol l2]) (.int 0) = some (ol l0) := rfl
    have e17' : (gN tab (k + 4)).call 17 [.own (pv a b), .shr (ol l0)] = .ok (.own (.lst (il bad))) (.own (pv a1 b1)) := e17
    simp [execSs, execS, evalE, evalEs, evalOs, evalAs, evalIt, evalTe, evalOe, evalAnd, evalOr, getAll, argsOf, refOf, setBk, askV, peekV, readV, ↓bnd_tag, ↓out_tag, ↓seq_tag, tbnd_ok, tbnd_exc, tbnd_bad, tout_bad, tseq_bad, end_bad, tout_ok, tout_exc, tseq_nx, tseq_rt, tseq_ex, tseq_bk, tseq_ct, of_some, fin_val, fin_opd, fin_tst, end_nx, end_rt, end_ex, Opd.get, sv_imm, tru_imm, val_shr, val_own, val_own2, val_frz2, scalar, backOf, setSlot, lnt, lt, packL, isOwnL, i0, e17']
  obtain ⟨a2, b2, s4, s5, s6, p2, t0⟩ := bad_turn k ρ0 (l0 := l0) (l1 := l1) (l2 := l2) (bad := bad) p1 0 (by decide) (.own (ol bad)) .un .un .un (.inl rfl) r0
  obtain ⟨a3, b3, s4', s5', s6', p3, t1⟩ := bad_turn k ρ0 (l0 := l0) (l1 := l1) (l2 := l2) (bad := bad) p2 1 (by decide) (.shr (ol bad)) s4 s5 s6 (.inr rfl) r1
  obtain ⟨a4, b4, s4'', s5'', s6'', p4, t2⟩ := bad_turn k ρ0 (l0 := l0) (l1 := l1) (l2 := l2) (bad := bad) p3 2 (by decide) (.shr (ol bad)) s4' s5' s6' (.inr rfl) r2
  have f2 : execS (gN tab (k + 4)) [0] ρ0 q__law_bad_right_7 [.own (pv a1 b1), .shr (.lst [ol l0, ol l1, ol l2]), .own (ol bad), .un, .un, .un, .un, .un] = .nx [.own (pv a4 b4), .shr (.lst [ol l0, ol l1, ol l2]), .shr (ol bad), .shr (.int (2 : Nat)), s4'', s5'', s6'', .un] := by
    have it := ev_rng1 (g := gN tab (k + 4)) (a := .cst (.int 3)) (ρ := [.own (pv a1 b1), .shr (.lst [ol l0, ol l1, ol l2]), .own (ol bad), .un, .un, .un, .un, .un]) (j := 3) (by simp [execSs, execS, evalE, evalEs, evalOs, evalAs, evalIt, evalTe, evalOe, evalAnd, evalOr, getAll, argsOf, refOf, setBk, askV, peekV, readV, ↓bnd_tag, ↓out_tag, ↓seq_tag, tbnd_ok, tbnd_exc, tbnd_bad, tout_bad, tseq_bad, end_bad, tout_ok, tout_exc, tseq_nx, tseq_rt, tseq_ex, tseq_bk, tseq_ct, of_some, fin_val, fin_opd, fin_tst, end_nx, end_rt, end_ex, Opd.get, sv_imm, tru_imm, val_shr, val_own, val_own2, val_frz2, scalar, backOf, setSlot, lnt, lt, packL, isOwnL]) (by omega) (by omega)
    have er : rngPV 0 (3 : Int).toNat = [.int (0 : Nat), .int (1 : Nat), .int (2 : Nat)] := rfl
    rw [er] at it
    refine (ex_for it rfl).trans ((bak_nil _ _).trans ?_)
    rw [wipe_nil]
    refine (for_nx rfl t0).trans ?_
    refine (for_nx rfl t1).trans ?_
    exact (for_nx rfl t2).trans rfl
  have f3 : execS (gN tab (k + 4)) [0] ρ0 (.ret (.cmp .eq (.call false 16 (.cons (.cst (.int 2)) (.cons (.lst false (.cons (.blt .list (.cons (.idx (.var 1) (.cst (.int 0))) .nil)) (.cons (.blt .tuple (.cons (.var 2) .nil)) (.cons (.bop .add (.blt .list (.cons (.var 2) .nil)) (.lst false (.cons (.cst (.int 0)) .nil))) .nil)))) .nil))) (.lst false (.cons (.cst (.str "no")) (.cons (.blt .tuple (.cons (.var 2) .nil)) (.cons (.cst (.bl false)) .nil)))))) [.own (pv a4 b4), .shr (.lst [ol l0, ol l1, ol l2]), .shr (ol bad), .shr (.int (2 : Nat)), s4'', s5'', s6'', .un] = .rt (.shr (.bl true)) [.own (pv a4 b4), .shr (.lst [ol l0, ol l1, ol l2]), .shr (ol bad), .shr (.int (2 : Nat)), s4'', s5'', s6'', .un] := by
    have i0 : idxPV (.lst [ol l0, ol l1, ol l2]) (.int 0) = some (ol l0) := rfl
    have cc := bop_cat (xs := il bad) (ys := [.int 0]) (by simp; omega)
    have el : il bad ++ [PV.int 0] = il (bad ++ [0]) := by simp [il]
    rw [el] at cc
    have q := eq_no3 bad
    have bt := b_tuplel (il bad)
    have b0 := b_listl (il l0)
    have b1 := b_listl (il bad)
    have r3 : (gN tab (k + 4)).call 16 [.shr (.int 2), .shr (.lst [ol l0, .tup (il bad), ol (bad ++ [0])])] = .ok (.own (no3 (.tup (il bad)))) .un := r3
    have cc : bopPV .add (ol bad) (.lst [.int 0]) = some (.own (ol (bad ++ [0]))) := cc
    have bt : bltPV .tuple [ol bad] = some (.shr (.tup (il bad))) := bt
    have b0 : bltPV .list [ol l0] = some (.own (ol l0)) := b0
    have b1 : bltPV .list [ol bad] = some (.own (ol bad)) := b1
    generalize ol (bad ++ [0]) = B0 at *
    generalize ol bad = B at *
    generalize PV.tup (il bad) = TB at *
    generalize ol l0 = L0 at *
    have lz : (3 : Nat) ≤ big := by unfold big; omega
    have lz1 : (1 : Nat) ≤ big := by unfold big; omega
    simp [execSs, execS, evalE, evalEs, evalOs, evalAs, evalIt, evalTe, evalOe, evalAnd, evalOr, getAll, argsOf, refOf, setBk, askV, peekV, readV, ↓bnd_tag, ↓out_tag, ↓seq_tag, tbnd_ok, tbnd_exc, tbnd_bad, tout_bad, tseq_bad, end_bad, tout_ok, tout_exc, tseq_nx, tseq_rt, tseq_ex, tseq_bk, tseq_ct, of_some, fin_val, fin_opd, fin_tst, end_nx, end_rt, end_ex, Opd.get, sv_imm, tru_imm, val_shr, val_own, val_own2, val_frz2, scalar, backOf, setSlot, lnt, lt, packL, isOwnL, i0, b0, b1, bt, cc, lz, lz1, r3, q]
  have fin : execSs (gN tab (k + 4)) [0] ρ0 d__law_bad_right.body [.own (pv a b), .shr (.lst [ol l0, ol l1, ol l2]), .un, .un, .un, .un, .un, .un] = .rt (.shr (.bl true)) [.own (pv a4 b4), .shr (.lst [ol l0, ol l1, ol l2]), .shr (ol bad), .shr (.int (2 : Nat)), s4'', s5'', s6'', .un] := by
    unfold d__law_bad_right
    dsimp only
    rw [one_more, f1, seq_nx, one_more, f2, seq_nx, one_more, f3, seq_rt]
  exact ⟨_, (congrArg (endD (some 0)) fin).trans rfl⟩
/-! ### the law -/
theorem one_line (k : Nat) {S : SV} {a b a' b' N : Int} {l : List Int} (h : (gN tab (k + 2)).call 10 [.own (pv a b), .shr (.int N)] = .ok (.own (.lst (il l))) (.own (pv a' b'))) (j : Int) :
    (fun ρ => (evalTe (gN tab (k + 2)) q_law_1 ρ).bnd fun b ρ => if b = true then (evalE (gN tab (k + 2)) .val q_law_2 ρ).bnd fun v ρ => .ok (some v.sv) ρ else .ok none ρ) [S, .own (pv a b), .shr (.int N), .un, .un, .un, .un, .un, .shr (.int j)] = (.ok (some (.own (ol l))) [S, .own (pv a' b'), .shr (.int N), .un, .un, .un, .un, .un, .shr (.int j)] : Rr (Option SV)) := by
  simp [execSs, execS, evalE, evalEs, evalOs, evalAs, evalIt, evalTe, evalOe, evalAnd, evalOr, getAll, argsOf, refOf, setBk, askV, peekV, readV, ↓bnd_tag, ↓out_tag, ↓seq_tag, tbnd_ok, tbnd_exc, tbnd_bad, tout_bad, tseq_bad, end_bad, tout_ok, tout_exc, tseq_nx, tseq_rt, tseq_ex, tseq_bk, tseq_ct, of_some, fin_val, fin_opd, fin_tst, end_nx, end_rt, end_ex, Opd.get, sv_imm, tru_imm, val_shr, val_own, val_own2, val_frz2, scalar, backOf, setSlot, lnt, lt, packL, isOwnL, q_law_1, q_law_2, h]
theorem lined3 (k : Nat) {S : SV} {a b : Int} {n : Nat} (p : Pot a b) (hn : n ≤ 20) : ∃ x y z a' b', Ord n x ∧ Ord n y ∧ Ord n z ∧ Pot a' b' ∧
    execS (gN tab (k + 2)) [] [S, .un, .un, .un, .un, .un, .un, .un, .un] (.many [3, 4, 5] q_law_3) [S, .own (pv a b), .shr (.int n), .un, .un, .un, .un, .un, .un] = .nx [S, .own (pv a' b'), .shr (.int n), .shr (ol x), .shr (ol y), .shr (ol z), .un, .un, .un] := by
  obtain ⟨x, a1, b1, hx, p1, e1⟩ := c10 k p hn
  obtain ⟨y, a2, b2, hy, p2, e2⟩ := c10 k p1 hn
  obtain ⟨z, a3, b3, hz, p3, e3⟩ := c10 k p2 hn
  refine ⟨x, y, z, a3, b3, hx, hy, hz, p3, ?_⟩
  clear hx hy hz p p1 p2 p3
  generalize (n : Int) = N at *
  have turn : ∀ {a b a' b' : Int} {l : List Int} (j : Int), (gN tab (k + 2)).call 10 [.own (pv a b), .shr (.int N)] = .ok (.own (.lst (il l))) (.own (pv a' b')) →
      (fun ρ => (evalTe (gN tab (k + 2)) q_law_1 ρ).bnd fun b ρ => if b = true then (evalE (gN tab (k + 2)) .val q_law_2 ρ).bnd fun v ρ => .ok (some v.sv) ρ else .ok none ρ) [S, .own (pv a b), .shr (.int N), .un, .un, .un, .un, .un, .shr (.int j)] = (.ok (some (.own (ol l))) [S, .own (pv a' b'), .shr (.int N), .un, .un, .un, .un, .un, .shr (.int j)] : Rr (Option SV)) := fun j h => one_line k h j
  have it := ev_rng1 (g := gN tab (k + 2)) (a := .cst (.int 3)) (ρ := [S, .own (pv a b), .shr (.int N), .un, .un, .un, .un, .un, .un]) (j := 3) (by simp [execSs, execS, evalE, evalEs, evalOs, evalAs, evalIt, evalTe, evalOe, evalAnd, evalOr, getAll, argsOf, refOf, setBk, askV, peekV, readV, ↓bnd_tag, ↓out_tag, ↓seq_tag, tbnd_ok, tbnd_exc, tbnd_bad, tout_bad, tseq_bad, end_bad, tout_ok, tout_exc, tseq_nx, tseq_rt, tseq_ex, tseq_bk, tseq_ct, of_some, fin_val, fin_opd, fin_tst, end_nx, end_rt, end_ex, Opd.get, sv_imm, tru_imm, val_shr, val_own, val_own2, val_frz2, scalar, backOf, setSlot, lnt, lt, packL, isOwnL]) (by omega) (by omega)
  have er : rngPV 0 (3 : Int).toNat = [.int 0, .int 1, .int 2] := rfl
  rw [er] at it
  generalize hF : (fun ρ => (evalTe (gN tab (k + 2)) q_law_1 ρ).bnd fun b ρ => if b = true then (evalE (gN tab (k + 2)) .val q_law_2 ρ).bnd fun v ρ => .ok (some v.sv) ρ else .ok none ρ : Rho → Rr (Option SV)) = F at turn
  have l3 : lcL (.one 8) [8] F [.int 2] [S, .own (pv a2 b2), .shr (.int N), .un, .un, .un, .un, .un, .un] = .ok [.own (ol z)] [S, .own (pv a3 b3), .shr (.int N), .un, .un, .un, .un, .un, .un] :=
    lc_cons (ρ1 := [S, .own (pv a2 b2), .shr (.int N), .un, .un, .un, .un, .un, .shr (.int 2)]) rfl (turn 2 e3) lc_nil
  have l2 : lcL (.one 8) [8] F [.int 1, .int 2] [S, .own (pv a1 b1), .shr (.int N), .un, .un, .un, .un, .un, .un] = .ok [.own (ol y), .own (ol z)] [S, .own (pv a3 b3), .shr (.int N), .un, .un, .un, .un, .un, .un] :=
    lc_cons (ρ1 := [S, .own (pv a1 b1), .shr (.int N), .un, .un, .un, .un, .un, .shr (.int 1)]) rfl (turn 1 e2) l3
  have lp : lcL (.one 8) [8] F [.int 0, .int 1, .int 2] [S, .own (pv a b), .shr (.int N), .un, .un, .un, .un, .un, .un] = .ok [.own (ol x), .own (ol y), .own (ol z)] [S, .own (pv a3 b3), .shr (.int N), .un, .un, .un, .un, .un, .un] :=
    lc_cons (ρ1 := [S, .own (pv a b), .shr (.int N), .un, .un, .un, .un, .un, .shr (.int 0)]) rfl (turn 0 e1) l2
  subst hF
  have ev : evalE (gN tab (k + 2)) .val q_law_3 [S, .own (pv a b), .shr (.int N), .un, .un, .un, .un, .un, .un] = _ := ev_lc (m := .val) (by decide) it (own := [8]) (by simp [notOwn, apart, big]) lp
  simp [execSs, execS, evalE, evalEs, evalOs, evalAs, evalIt, evalTe, evalOe, evalAnd, evalOr, getAll, argsOf, refOf, setBk, askV, peekV, readV, ↓bnd_tag, ↓out_tag, ↓seq_tag, tbnd_ok, tbnd_exc, tbnd_bad, tout_bad, tseq_bad, end_bad, tout_ok, tout_exc, tseq_nx, tseq_rt, tseq_ex, tseq_bk, tseq_ct, of_some, fin_val, fin_opd, fin_tst, end_nx, end_rt, end_ex, Opd.get, sv_imm, tru_imm, val_shr, val_own, val_own2, val_frz2, scalar, backOf, setSlot, lnt, lt, packL, isOwnL, ev, backR, bindMany]
theorem law_true (ns : List Int) : ∃ bk, (gN tab 8).call 19 [.shr (.scr ns)] = .ok (.shr (.bl true)) bk := by
  obtain ⟨a, b, p, e8⟩ := c8 6 ns 0
  obtain ⟨v, a1, b1, v0, v1, p1, e9⟩ := c9 6 p (n := 8) (by decide)
  obtain ⟨n, hn, ix3⟩ : ∃ n : Nat, n ≤ 20 ∧ idxPV (.lst [.int 3, .int 0, .int 1, .int 2, .int 4, .int 5, .int 6, .int 7]) (.int v) = some (.int (n : Int)) := by
    have : v = 0 ∨ v = 1 ∨ v = 2 ∨ v = 3 ∨ v = 4 ∨ v = 5 ∨ v = 6 ∨ v = 7 := by omega
    rcases this with rfl | rfl | rfl | rfl | rfl | rfl | rfl | rfl
    · exact ⟨3, by decide, rfl⟩
    · exact ⟨0, by decide, rfl⟩
    · exact ⟨1, by decide, rfl⟩
    · exact ⟨2, by decide, rfl⟩
    · exact ⟨4, by decide, rfl⟩
    · exact ⟨5, by decide, rfl⟩
    · exact ⟨6, by decide, rfl⟩
    · exact ⟨7, by decide, rfl⟩
  obtain ⟨x, y, z, a2, b2, hx, hy, hz, p2, em⟩ := lined3 5 (S := .shr (.scr ns)) p1 hn
  obtain ⟨a3, b3, p3, e8'⟩ := c8 6 ns 1
  obtain ⟨bk, e18⟩ := c18 2 p3 hx hy hz hn
  have e14 := c14 3 hx hy hn
  have e14' := c14 3 hy hz hn
  have e15 := c15 3 hx hy hn
  have e15' := c15 3 hx hx.rev hn
  have hr := hx.rev
  have c5z := c5_ok 4 hz hx hy hn
  have c5r := c5_ok 4 hr hx hy hn
  have c5x := c5_ok 4 hx hx hy hn
  have c12z := c12 5 hz hx hy hn
  have c12r := c12 5 hr hx hy hn
  have c12x := c12 5 hx hx hy hn
  have c5a := c5_ok 4 hz hx hr hn
  rw [mid_rev (hz.perm hx) hx.nd] at c5a
  have c5b := c5_ok 4 hz hx hx hn
  rw [mid_self (hz.perm hx) hz.nd] at c5b
  rw [cl]
  show ∃ bk, runD (gN tab 7) d_law _ = _
  rw [runD_eq rfl]
  let ρ0 : Rho := [.shr (.scr ns), .un, .un, .un, .un, .un, .un, .un, .un]
  have f1 : execS (gN tab 7) [] ρ0 (.set 1 (.call false 8 (.cons (.var 0) (.cons (.cst (.int 0)) .nil)))) [.shr (.scr ns), .un, .un, .un, .un, .un, .un, .un, .un] = .nx [.shr (.scr ns), .own (pv a b), .un, .un, .un, .un, .un, .un, .un] := by
    have e8 : (gN tab 7).call 8 [.shr (.scr ns), .shr (.int 0)] = .ok (.own (pv a b)) .un := e8
    simp [execSs, execS, evalE, evalEs, evalOs, evalAs, evalIt, evalTe, evalOe, evalAnd, evalOr, getAll, argsOf, refOf, setBk, askV, peekV, readV, ↓bnd_tag, ↓out_tag, ↓seq_tag, tbnd_ok, tbnd_exc, tbnd_bad, tout_bad, tseq_bad, end_bad, tout_ok, tout_exc, tseq_nx, tseq_rt, tseq_ex, tseq_bk, tseq_ct, of_some, fin_val, fin_opd, fin_tst, end_nx, end_rt, end_ex, Opd.get, sv_imm, tru_imm, val_shr, val_own, val_own2, val_frz2, scalar, backOf, setSlot, lnt, lt, packL, isOwnL, e8]
  have f2 : execS (gN tab 7) [] ρ0 (.set 2 (.idx (.lst false (.cons (.cst (.int 3)) (.cons (.cst (.int 0)) (.cons (.cst (.int 1)) (.cons (.cst (.int 2)) (.cons (.cst (.int 4)) (.cons (.cst (.int 5)) (.cons (.cst (.int 6)) (.cons (.cst (.int 7)) .nil))))))))) (.call false 9 (.cons (.var 1) (.cons (.cst (.int 8)) .nil))))) [.shr (.scr ns), .own (pv a b), .un, .un, .un, .un, .un, .un, .un] = .nx [.shr (.scr ns), .own (pv a1 b1), .shr (.int n), .un, .un, .un, .un, .un, .un] := by
    have e9 : (gN tab 7).call 9 [.own (pv a b), .shr (.int 8)] = .ok (.shr (.int v)) (.own (pv a1 b1)) := e9
    simp [execSs, execS, evalE, evalEs, evalOs, evalAs, evalIt, evalTe, evalOe, evalAnd, evalOr, getAll, argsOf, refOf, setBk, askV, peekV, readV, ↓bnd_tag, ↓out_tag, ↓seq_tag, tbnd_ok, tbnd_exc, tbnd_bad, tout_bad, tseq_bad, end_bad, tout_ok, tout_exc, tseq_nx, tseq_rt, tseq_ex, tseq_bk, tseq_ct, of_some, fin_val, fin_opd, fin_tst, end_nx, end_rt, end_ex, Opd.get, sv_imm, tru_imm, val_shr, val_own, val_own2, val_frz2, scalar, backOf, setSlot, lnt, lt, packL, isOwnL, e9, ix3, big]
  have f3 : execS (gN tab 7) [] ρ0 (.many [3, 4, 5] q_law_3) [.shr (.scr ns), .own (pv a1 b1), .shr (.int n), .un, .un, .un, .un, .un, .un] = .nx [.shr (.scr ns), .own (pv a2 b2), .shr (.int n), .shr (ol x), .shr (ol y), .shr (ol z), .un, .un, .un] := em
  have rv : bltPV .listrev [ol x] = some (.own (ol x.reverse)) := by
    have := b_rev (il x)
    rw [this]; simp [il]
  have f4 : execS (gN tab 7) [] ρ0 (.ife (.bor (.cons (.bnot (.call false 14 (.cons (.var 3) (.cons (.var 4) .nil)))) (.cons (.bnot (.call false 14 (.cons (.var 4) (.cons (.var 5) .nil)))) .nil))) (.cons (.ret (.cst (.bl false))) .nil) .nil) [.shr (.scr ns), .own (pv a2 b2), .shr (.int n), .shr (ol x), .shr (ol y), .shr (ol z), .un, .un, .un] = .nx [.shr (.scr ns), .own (pv a2 b2), .shr (.int n), .shr (ol x), .shr (ol y), .shr (ol z), .un, .un, .un] := by
    have e14 : (gN tab 7).call 14 [.shr (ol x), .shr (ol y)] = .ok (.shr (.bl true)) .un := e14
    have e14' : (gN tab 7).call 14 [.shr (ol y), .shr (ol z)] = .ok (.shr (.bl true)) .un := e14'
    simp [execSs, execS, evalE, evalEs, evalOs, evalAs, evalIt, evalTe, evalOe, evalAnd, evalOr, getAll, argsOf, refOf, setBk, askV, peekV, readV, ↓bnd_tag, ↓out_tag, ↓seq_tag, tbnd_ok, tbnd_exc, tbnd_bad, tout_bad, tseq_bad, end_bad, tout_ok, tout_exc, tseq_nx, tseq_rt, tseq_ex, tseq_bk, tseq_ct, of_some, fin_val, fin_opd, fin_tst, end_nx, end_rt, end_ex, Opd.get, sv_imm, tru_imm, val_shr, val_own, val_own2, val_frz2, scalar, backOf, setSlot, lnt, lt, packL, isOwnL, e14, e14', truthP]
  have f5 : execS (gN tab 7) [] ρ0 (.ife (.bor (.cons (.bnot (.call false 15 (.cons (.var 3) (.cons (.var 4) .nil)))) (.cons (.bnot (.call false 15 (.cons (.var 3) (.cons (.blt .listrev (.cons (.var 3) .nil)) .nil)))) .nil))) (.cons (.ret (.cst (.bl false))) .nil) .nil) [.shr (.scr ns), .own (pv a2 b2), .shr (.int n), .shr (ol x), .shr (ol y), .shr (ol z), .un, .un, .un] = .nx [.shr (.scr ns), .own (pv a2 b2), .shr (.int n), .shr (ol x), .shr (ol y), .shr (ol z), .un, .un, .un] := by
    have e15 : (gN tab 7).call 15 [.shr (ol x), .shr (ol y)] = .ok (.shr (.bl true)) .un := e15
    have e15' : (gN tab 7).call 15 [.shr (ol x), .shr (ol x.reverse)] = .ok (.shr (.bl true)) .un := e15'
    generalize ol x.reverse = XR at *
    generalize ol x = X at *
    simp [execSs, execS, evalE, evalEs, evalOs, evalAs, evalIt, evalTe, evalOe, evalAnd, evalOr, getAll, argsOf, refOf, setBk, askV, peekV, readV, ↓bnd_tag, ↓out_tag, ↓seq_tag, tbnd_ok, tbnd_exc, tbnd_bad, tout_bad, tseq_bad, end_bad, tout_ok, tout_exc, tseq_nx, tseq_rt, tseq_ex, tseq_bk, tseq_ct, of_some, fin_val, fin_opd, fin_tst, end_nx, end_rt, end_ex, Opd.get, sv_imm, tru_imm, val_shr, val_own, val_own2, val_frz2, scalar, backOf, setSlot, lnt, lt, packL, isOwnL, e15, e15', rv, truthP]
  -- the three orders
  have turn : ∀ {o : List Int} {m : Bool} (s7 : SV), (gN tab 7).call 5 [.shr (ol o), .shr (ol x), .shr (ol y)] = .ok (.shr (.bl m)) .un → (gN tab 7).call 12 [.shr (ol o), .shr (ol x), .shr (ol y)] = .ok (.shr (.bl m)) .un →
      execSs (gN tab 7) [] ρ0 q_law_4 [.shr (.scr ns), .own (pv a2 b2), .shr (.int n), .shr (ol x), .shr (ol y), .shr (ol z), .shr (ol o), s7, .un] = .nx [.shr (.scr ns), .own (pv a2 b2), .shr (.int n), .shr (ol x), .shr (ol y), .shr (ol z), .shr (ol o), .shr (.bl m), .un] := by
    intro o m s7 h5 h12
    have nb := ne_bl m m
    have bb := b_isb m
    simp [execSs, execS, evalE, evalEs, evalOs, evalAs, evalIt, evalTe, evalOe, evalAnd, evalOr, getAll, argsOf, refOf, setBk, askV, peekV, readV, ↓bnd_tag, ↓out_tag, ↓seq_tag, tbnd_ok, tbnd_exc, tbnd_bad, tout_bad, tseq_bad, end_bad, tout_ok, tout_exc, tseq_nx, tseq_rt, tseq_ex, tseq_bk, tseq_ct, of_some, fin_val, fin_opd, fin_tst, end_nx, end_rt, end_ex, Opd.get, sv_imm, tru_imm, val_shr, val_own, val_own2, val_frz2, scalar, backOf, setSlot, lnt, lt, packL, isOwnL, q_law_4, b_listl, h5, h12, nb, bb, truthP]
  have f6 : ∃ s6 s7, execS (gN tab 7) [] ρ0 q_law_5 [.shr (.scr ns), .own (pv a2 b2), .shr (.int n), .shr (ol x), .shr (ol y), .shr (ol z), .un, .un, .un] = .nx [.shr (.scr ns), .own (pv a2 b2), .shr (.int n), .shr (ol x), .shr (ol y), .shr (ol z), s6, s7, .un] := by
    have it : evalIt (gN tab 7) (.seq (.lst false (.cons (.var 5) (.cons (.blt .listrev (.cons (.var 3) .nil)) (.cons (.var 3) .nil))))) [.shr (.scr ns), .own (pv a2 b2), .shr (.int n), .shr (ol x), .shr (ol y), .shr (ol z), .un, .un, .un] = .ok ([ol z, ol x.reverse, ol x], []) [.shr (.scr ns), .own (pv a2 b2), .shr (.int n), .shr (ol x), .shr (ol y), .shr (ol z), .un, .un, .un] := by
      generalize ol x.reverse = XR at *
      generalize ol x = X at *
      simp [execSs, execS, evalE, evalEs, evalOs, evalAs, evalIt, evalTe, evalOe, evalAnd, evalOr, getAll, argsOf, refOf, setBk, askV, peekV, readV, ↓bnd_tag, ↓out_tag, ↓seq_tag, tbnd_ok, tbnd_exc, tbnd_bad, tout_bad, tseq_bad, end_bad, tout_ok, tout_exc, tseq_nx, tseq_rt, tseq_ex, tseq_bk, tseq_ct, of_some, fin_val, fin_opd, fin_tst, end_nx, end_rt, end_ex, Opd.get, sv_imm, tru_imm, val_shr, val_own, val_own2, val_frz2, scalar, backOf, setSlot, lnt, lt, packL, isOwnL, rv, big, hidO]
    refine ⟨.shr (ol x), .shr (.bl (mid x x y)), (ex_for it rfl).trans ((bak_nil _ _).trans ?_)⟩
    · rw [wipe_nil]
      refine (for_nx rfl (turn _ c5z c12z)).trans ?_
      refine (for_nx rfl (turn _ c5r c12r)).trans ?_
      exact (for_nx rfl (turn _ c5x c12x)).trans rfl
  obtain ⟨s6, s7, f6⟩ := f6
  have f7 : execS (gN tab 7) [] ρ0 (.ife (.isk true (.call false 5 (.cons (.var 5) (.cons (.var 3) (.cons (.blt .listrev (.cons (.var 3) .nil)) .nil)))) (.bl true)) (.cons (.ret (.cst (.bl false))) .nil) .nil) [.shr (.scr ns), .own (pv a2 b2), .shr (.int n), .shr (ol x), .shr (ol y), .shr (ol z), s6, s7, .un] = .nx [.shr (.scr ns), .own (pv a2 b2), .shr (.int n), .shr (ol x), .shr (ol y), .shr (ol z), s6, s7, .un] := by
    have c5a : (gN tab 7).call 5 [.shr (ol z), .shr (ol x), .shr (ol x.reverse)] = .ok (.shr (.bl true)) .un := c5a
    generalize ol x.reverse = XR at *
    generalize ol x = X at *
    simp [execSs, execS, evalE, evalEs, evalOs, evalAs, evalIt, evalTe, evalOe, evalAnd, evalOr, getAll, argsOf, refOf, setBk, askV, peekV, readV, ↓bnd_tag, ↓out_tag, ↓seq_tag, tbnd_ok, tbnd_exc, tbnd_bad, tout_bad, tseq_bad, end_bad, tout_ok, tout_exc, tseq_nx, tseq_rt, tseq_ex, tseq_bk, tseq_ct, of_some, fin_val, fin_opd, fin_tst, end_nx, end_rt, end_ex, Opd.get, sv_imm, tru_imm, val_shr, val_own, val_own2, val_frz2, scalar, backOf, setSlot, lnt, lt, packL, isOwnL, rv, c5a, truthP]
  have f8 : execS (gN tab 7) [] ρ0 (.ife (.cmp .ne (.call false 5 (.cons (.var 5) (.cons (.var 3) (.cons (.var 3) .nil)))) (.cmp .eq (.var 5) (.var 3))) (.cons (.ret (.cst (.bl false))) .nil) .nil) [.shr (.scr ns), .own (pv a2 b2), .shr (.int n), .shr (ol x), .shr (ol y), .shr (ol z), s6, s7, .un] = .nx [.shr (.scr ns), .own (pv a2 b2), .shr (.int n), .shr (ol x), .shr (ol y), .shr (ol z), s6, s7, .un] := by
    have c5b : (gN tab 7).call 5 [.shr (ol z), .shr (ol x), .shr (ol x)] = .ok (.shr (.bl (decide (z = x)))) .un := c5b
    have eq := eq_il z x
    have nb := ne_bl (decide (z = x)) (decide (z = x))
    generalize decide (z = x) = D at *
    have eq : cmpPV .eq (ol z) (ol x) = some D := eq
    generalize ol x = X at *
    generalize ol z = Z at *
    simp [execSs, execS, evalE, evalEs, evalOs, evalAs, evalIt, evalTe, evalOe, evalAnd, evalOr, getAll, argsOf, refOf, setBk, askV, peekV, readV, ↓bnd_tag, ↓out_tag, ↓seq_tag, tbnd_ok, tbnd_exc, tbnd_bad, tout_bad, tseq_bad, end_bad, tout_ok, tout_exc, tseq_nx, tseq_rt, tseq_ex, tseq_bk, tseq_ct, of_some, fin_val, fin_opd, fin_tst, end_nx, end_rt, end_ex, Opd.get, sv_imm, tru_imm, val_shr, val_own, val_own2, val_frz2, scalar, backOf, setSlot, lnt, lt, packL, isOwnL, c5b, eq, nb, truthP]
  have f9 : ∃ ρ, execS (gN tab 7) [] ρ0 (.ret (.call false 18 (.cons (.call false 8 (.cons (.var 0) (.cons (.cst (.int 1)) .nil))) (.cons (.lst false (.cons (.var 3) (.cons (.var 4) (.cons (.var 5) .nil)))) .nil)))) [.shr (.scr ns), .own (pv a2 b2), .shr (.int n), .shr (ol x), .shr (ol y), .shr (ol z), s6, s7, .un] = .rt (.shr (.bl true)) ρ := by
    have e8' : (gN tab 7).call 8 [.shr (.scr ns), .shr (.int 1)] = .ok (.own (pv a3 b3)) .un := e8'
    have e18 : (gN tab 7).call 18 [.own (pv a3 b3), .shr (.lst [ol x, ol y, ol z])] = .ok (.shr (.bl true)) bk := e18
    refine ⟨[.shr (.scr ns), .own (pv a2 b2), .shr (.int n), .shr (ol x), .shr (ol y), .shr (ol z), s6, s7, .un], ?_⟩
    simp [execSs, execS, evalE, evalEs, evalOs, evalAs, evalIt, evalTe, evalOe, evalAnd, evalOr, getAll, argsOf, refOf, setBk, askV, peekV, readV, ↓bnd_tag, ↓out_tag, ↓seq_tag, tbnd_ok, tbnd_exc, tbnd_bad, tout_bad, tseq_bad, end_bad, tout_ok, tout_exc, tseq_nx, tseq_rt, tseq_ex, tseq_bk, tseq_ct, of_some, fin_val, fin_opd, fin_tst, end_nx, end_rt, end_ex, Opd.get, sv_imm, tru_imm, val_shr, val_own, val_own2, val_frz2, scalar, backOf, setSlot, lnt, lt, packL, isOwnL, e8', e18, big]
  obtain ⟨ρ9, f9⟩ := f9
  have fin : execSs (gN tab 7) [] ρ0 d_law.body [.shr (.scr ns), .un, .un, .un, .un, .un, .un, .un, .un] = .rt (.shr (.bl true)) ρ9 := by
    unfold d_law
    dsimp only
    rw [one_more, f1, seq_nx, one_more, f2, seq_nx, one_more, f3, seq_nx, one_more, f4, seq_nx, one_more, f5, seq_nx, one_more, f6, seq_nx, one_more, f7, seq_nx, one_more, f8, seq_nx, one_more, f9, seq_rt]
  exact ⟨_, (congrArg (endD none) fin).trans rfl⟩
end K28
end KL
end
set_option Elab.async false
set_option linter.all false
set_option maxRecDepth 100000
set_option maxHeartbeats 0
namespace KL
namespace K28
open PySem PySem.Spec PyProof.Rows L2 PySem.W He
theorem facts {w : World} {K : PySem.W.Frag} {h : Heap} {mg : Str → Option Value} {f : Addr} (KX : K.In h) (G : h.Ns mainGlobals mg) (hfa : mg ("law" : Str) = some (.ref f)) (c : SaysK kds ex K) :
    ∃ fd : FuncData, (∀ (s : Shared) (v : Value), BindsTo s fd ⟨[v], []⟩ [("script", v)]) ∧ ∀ base : Heap, K.In base → base.Ns mainGlobals mg → FnOk prg w K mg base CX0 10 f fd ["script"] (spE (spG (thK K) (gN tab 8) 19 1)) := by
  obtain ⟨fa, fd, D⟩ := at_law KX G c
  have e := hfa.symm.trans D.mg
  cases e
  exact ⟨fd, fun s v => D.ba s [v] rfl, fun base _ _ => fn_quiet (tab_ok (tabOk (base := base) KX G c) 8 19 d_law rfl D)⟩
theorem law_plain (ns : List Int) (h : ns.length ≤ 63) : ∃ bk, (gN tab 8).call 19 [.shr (.scr ns)] = .ok (.shr (.bl true)) bk := law_true ns
end K28
end KL
open PySem PySem.W PySem.Calls PyProof.Rows
set_option Elab.async false
set_option maxRecDepth 100000 in
set_option maxHeartbeats 0 in
theorem PySem.Challenge.cw_keptlayers_k28_orders_between_and_ways_holds : PySem.Challenge.rw_keptlayers_k28_orders_between_and_ways.Holds := by
  w_on; o_law
  refine HandSHeadRun.head_any (r := OpenLaw.row PySem.Challenge.rw_keptlayers_k28_orders_between_and_ways) (q := KL.K28.qv) (H := KL.K28.hk) (ob := KL.K28.ob) (M := 4000) (loose := KL.K28.loose) (d := HandSHeadRun.topDef (OpenLaw.row PySem.Challenge.rw_keptlayers_k28_orders_between_and_ways).prog KL.K28.lawIx) (kwd := []) KL.K28.ob_eq
    (by kernel_rfl) (fun s => by kernel_rfl) KL.K28.run (by kernel_rfl) (by kernel_rfl) (by kernel_rfl) (by rfl) (by first | assumption | decide +kernel) (by decide +kernel) ⟨rfl, rfl, rfl, rfl, rfl, by decide +kernel⟩ ?hw ?hc
  case hw => w_witness2
  case hc =>
    refine L2.walk_ofE (l := PySem.Challenge.rw_keptlayers_k28_orders_between_and_ways) (n := 63) (k := 10) (x := "script") (CX := L2.CX0) rfl (by decide) (by kernel_rfl) ⟨rfl, by decide, by decide⟩ ?F (fun _ _ _ _ z => z)
    intro w mg fa h Y G hmg0
    obtain ⟨K, KX, c⟩ := Y
    have hmg : mg ("law" : PySem.Str) = some (.ref fa) := by
      have e : (HandSHeadRun.topDef (OpenLaw.row PySem.Challenge.rw_keptlayers_k28_orders_between_and_ways).prog KL.K28.lawIx).name = ("law" : PySem.Str) := by kernel_rfl
      rw [← e]
      exact hmg0
    obtain ⟨fd, hb, hF⟩ := KL.K28.facts (w := w) KX G hmg c
    exact ⟨K, fd, _, KX, hb, fun H a ns hl _ hS => KL.sp_law rfl hS (KL.K28.law_plain ns hl), hF⟩
