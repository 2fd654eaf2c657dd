import PyProof.Rows.All
import HandS.ForMost
import HandS.ForExc
import HandS.CallSlots
import HandS.TryMany
import HandS.TupAny
import HandS.Style
import HandS.Deep
import HandS.Zip
import HandS.IsInst
import HandS.Conv
import HandS.StrMore
import HandS.More
import HandS.Small
import HandS.TupMul
import HandS.Flow
import HandS.SetFor
import HandS.Replace
import HandS.RaiseMore
import HandS.SetBool
import HandS.Strs
import KE.SortData
import KE.GoesZip
import KE.KDictZip
import PyProof.EnumMake
import HandS.EndBits
import KE.KRevSl
import KE.DataMinMax
import KE.KDictSum
import PyProof.Transfer
import HandS.DictTup
import OpenK.KTop
import PyProof.SetRoads
import KE.KDictPairs
import PyProof.Rows.SumGenD
import KE.KIndexOf
import PySem.Challenge.RW_saidround_k23_grounding
set_option linter.all false
set_option autoImplicit false
/-! SRa: plain data, results, environments, and what the operations of the walked programs do on plain data. No program in sight. -/
namespace SR
abbrev Txt := List Nat

/-- plain data -/
inductive D where
  | non | bl (b : Bool) | int (i : Int) | str (x : Txt)
  | tup (xs : List D) | lst (xs : List D) | dct (t : Bool) (kvs : List (D × D))
  /-- the script: a list that is read alone -/
  | scr (ns : List Int)
  deriving Inhabited

/-- the program's own exceptions -/
inductive Exc where
  | sayError | badBook | badTelling | badSaying | badWorth | notSound | unlike | badText | badOrder | tooDeep | nothing
  deriving DecidableEq, Inhabited

inductive Res (α : Type) where
  | ok (a : α) | rs (c : Exc) | bad
def Res.bind {α β : Type} (r : Res α) (f : α → Res β) : Res β := match r with
  | .ok a => f a
  | .rs c => .rs c
  | .bad => .bad
@[simp] theorem ok_bind {α β : Type} (a : α) (f : α → Res β) : (Res.ok a).bind f = f a := rfl
@[simp] theorem rs_bind {α β : Type} (c : Exc) (f : α → Res β) : (Res.rs c).bind f = .rs c := rfl
@[simp] theorem bad_bind {α β : Type} (f : α → Res β) : (Res.bad : Res α).bind f = .bad := rfl

/-- a def's slot: unknown, a value of the ground, a list or dict of its own -/
inductive Slot where
  | dead | pl (d : D) | own (d : D)
  deriving Inhabited
abbrev Env := List Slot
abbrev EX := Env → Res D
abbrev TX := Env → Res Bool
abbrev AX := Env → Res (List D)
/-- a statement's end -/
inductive Out where
  | nx (ρ : Env) | rt (d : D) | bk (ρ : Env) | ct (ρ : Env) | rs (c : Exc) (ρ : Env) | bad
abbrev SX := Env → Out
abbrev GX := D → Env → Res Env

def line : Nat := 16777216

/-! ### equality -/
mutual
def D.eq : D → D → Bool
  | .non, .non => true
  | .bl a, .bl b => a == b
  | .bl a, .int j => (if a then 1 else 0) == j
  | .int i, .bl b => i == (if b then 1 else 0)
  | .int i, .int j => i == j
  | .str x, .str y => x == y
  | .lst xs, .lst ys => D.eqs xs ys
  | .tup xs, .tup ys => D.eqs xs ys
  | _, _ => false
def D.eqs : List D → List D → Bool
  | [], [] => true
  | x :: xs, y :: ys => D.eq x y && D.eqs xs ys
  | _, _ => false
end
mutual
def D.dep : D → Nat
  | .lst xs => D.deps xs + 1
  | .tup xs => D.deps xs + 1
  | .dct _ _ => 100
  | .scr _ => 100
  | _ => 0
def D.deps : List D → Nat
  | [] => 0
  | x :: xs => max (D.dep x) (D.deps xs)
end
/-- codes that a text may have -/
def okC (c : Nat) : Bool := decide (c < 55296)
mutual
/-- no dict within, plain codes -/
def D.lay : D → Bool
  | .str x => x.all okC
  | .lst xs => D.lays xs
  | .tup xs => D.lays xs
  | .dct _ _ => false
  | .scr _ => false
  | _ => true
def D.lays : List D → Bool
  | [] => true
  | x :: xs => D.lay x && D.lays xs
end
def D.good (d : D) : Bool := d.lay && decide (d.dep ≤ 64)
/-- a number, a text, a truth, None -/
@[simp] def D.flat : D → Bool
  | .tup _ => false | .lst _ => false | .dct _ _ => false | .scr _ => false
  | _ => true
mutual
/-- nothing that could be changed is within -/
def D.imm : D → Bool
  | .tup xs => D.imms xs
  | .lst _ => false
  | .dct _ _ => false
  | .scr _ => false
  | _ => true
def D.imms : List D → Bool
  | [] => true
  | x :: xs => D.imm x && D.imms xs
end
/-- two that == tells apart without looking within -/
@[simp] def scalD : D → D → Bool
  | .non, .non => true | .non, .int _ => true | .int _, .non => true | .non, .bl _ => true | .bl _, .non => true | .non, .str _ => true | .str _, .non => true
  | .int _, .int _ => true | .bl _, .bl _ => true | .str _, .str _ => true | .int _, .str _ => true | .str _, .int _ => true | .bl _, .str _ => true | .str _, .bl _ => true
  | _, _ => false
@[simp] def dEq (a b : D) : Res D := if scalD a b || (a.good && b.good) then .ok (.bl (D.eq a b)) else .bad
@[simp] def dNe (a b : D) : Res D := if scalD a b || (a.good && b.good) then .ok (.bl (!D.eq a b)) else .bad

/-! ### numbers and order -/
@[simp] def cmpI (p : Int → Int → Bool) : D → D → Res D
  | .int i, .int j => .ok (.bl (p i j))
  | _, _ => .bad
@[simp] def dLt : D → D → Res D
  | .int i, .int j => .ok (.bl (decide (i < j)))
  | .str x, .str y => .ok (.bl (decide (x < y)))
  | _, _ => .bad
@[simp] def dLe : D → D → Res D := cmpI fun i j => decide (i ≤ j)
@[simp] def dGt : D → D → Res D := cmpI fun i j => decide (j < i)
@[simp] def dGe : D → D → Res D := cmpI fun i j => decide (j ≤ i)
@[simp] def dAdd : D → D → Res D
  | .int i, .int j => .ok (.int (i + j))
  | .str x, .str y => if x.length + y.length ≤ line then .ok (.str (x ++ y)) else .bad
  | .tup x, .tup y => if x.length + y.length ≤ line then .ok (.tup (x ++ y)) else .bad
  | .lst x, .lst y => if x.length + y.length ≤ line then .ok (.lst (x ++ y)) else .bad
  | _, _ => .bad
@[simp] def dSub : D → D → Res D
  | .int i, .int j => .ok (.int (i - j))
  | _, _ => .bad
def small64 (i : Int) : Bool := decide (i.natAbs < 18446744073709551616)
/-- k times a list -/
def rep {α : Type} (xs : List α) (k : Int) : List α := (List.replicate k.toNat xs).flatten
def dMul : D → D → Res D
  | .int i, .int j => if small64 i || small64 j then .ok (.int (i * j)) else .bad
  | .str x, .int k => if x.length * k.toNat ≤ line && decide (k < 1000) && decide (-1000 < k) then .ok (.str (rep x k)) else .bad
  | .tup x, .int k => if !x.isEmpty && decide (2 ≤ k) && decide (k ≤ 1000) && decide (x.length ≤ 1000) then .ok (.tup (rep x k)) else .bad
  | .lst x, .int k => if x.length * k.toNat ≤ line && decide (k < 1000) && decide (-1000 < k) then .ok (.lst (rep x k)) else .bad
  | _, _ => .bad
@[simp] def dDiv : D → D → Res D
  | .int i, .int j => if decide (0 < j) && decide (j < 1073741824) then .ok (.int (i / j)) else .bad
  | _, _ => .bad
@[simp] def dMod : D → D → Res D
  | .int i, .int j => if decide (0 < j) then .ok (.int (i % j)) else .bad
  | _, _ => .bad
def dPow : D → D → Res D
  | .int i, .int j => if decide (0 ≤ j) && decide (j ≤ 1000000) && decide (i.natAbs < 2 ^ 64) then .ok (.int (i ^ j.toNat)) else .bad
  | _, _ => .bad
@[simp] def dNeg : D → Res D
  | .int i => .ok (.int (-i))
  | _ => .bad
@[simp] def D.isN : D → Bool
  | .non => true
  | _ => false
@[simp] def dIs : D → D → Res D
  | a, .non => .ok (.bl a.isN)
  | .bl a, .bl b => .ok (.bl (a == b))
  | _, _ => .bad
@[simp] def dIsNot : D → D → Res D
  | a, .non => .ok (.bl (!a.isN))
  | .bl a, .bl b => .ok (.bl (!(a == b)))
  | _, _ => .bad

/-! ### sequences -/
def ixN (n : Nat) (i : Int) : Option Nat := if 0 ≤ i then (if i < n then some i.toNat else none) else if -(n : Int) ≤ i then some (i + n).toNat else none
def atI {α : Type} (xs : List α) (i : Int) : Option α := (ixN xs.length i).bind fun j => xs[j]?
def sIx (n d : Nat) : Option Int → Nat
  | none => d
  | some v => if v < 0 then (v + (n : Int)).toNat else min v.toNat n
def cut {α : Type} (xs : List α) (lo hi : Option Int) : List α := (xs.drop (sIx xs.length 0 lo)).take (sIx xs.length xs.length hi - sIx xs.length 0 lo)
@[simp] def ofO (o : Option D) : Res D := match o with
  | some d => .ok d
  | none => .bad
@[simp] def D.key1 : D → Bool
  | .int _ => true
  | .str _ => true
  | _ => false
/-- the tuples that stand at the program's top, ("yes",), ("no",) -/
@[simp] def ynT : List D → Bool
  | [.str x] => x == [121, 101, 115] || x == [110, 111]
  | _ => false
/-- a key of a dict: numbers and texts, or (t) tuples of them -/
@[simp] def fitK (t : Bool) (k : D) : Bool := match k with
  | .int _ => !t
  | .str _ => !t
  | .tup _ => false
  | _ => false
@[simp] def lookD (kvs : List (D × D)) (k : D) : Option D := (kvs.find? fun p => D.eq p.1 k).map (·.2)
@[simp] def putD (kvs : List (D × D)) (k v : D) : List (D × D) :=
  if kvs.any fun p => D.eq p.1 k then kvs.map fun p => if D.eq p.1 k then (p.1, v) else p else kvs ++ [(k, v)]
@[simp] def dIx : D → D → Res D
  | .lst xs, .int i => ofO (atI xs i)
  | .tup xs, .int i => ofO (atI xs i)
  | .scr ns, .int i => ofO ((atI ns i).map .int)
  | .str x, .int i => if x.length ≤ line then (match atI x i with | some c => .ok (.str [c]) | none => .bad) else .bad
  | .dct t kvs, k => if fitK t k then ofO (lookD kvs k) else .bad
  | _, _ => .bad
def asI : D → Option Int
  | .int i => some i
  | _ => none
/-- a[lo:hi] -/
@[simp] def dCut (a : D) (lo hi : Option Int) : Res D := match a with
  | .lst xs => .ok (.lst (cut xs lo hi))
  | .tup xs => .ok (.tup (cut xs lo hi))
  | .str x => if x.length ≤ line then .ok (.str (cut x lo hi)) else .bad
  | _ => .bad
def dRev : D → Res D
  | .lst xs => .ok (.lst xs.reverse)
  | .tup xs => .ok (.tup xs.reverse)
  | _ => .bad
@[simp] def dLen : D → Res D
  | .lst xs => .ok (.int xs.length)
  | .tup xs => .ok (.int xs.length)
  | .scr xs => .ok (.int xs.length)
  | .str x => if x.length ≤ line then .ok (.int x.length) else .bad
  | _ => .bad
@[simp] def dTruth : D → Res Bool
  | .non => .ok false
  | .bl b => .ok b
  | .int i => .ok (i != 0)
  | .str x => if x.length ≤ line then .ok (!x.isEmpty) else .bad
  | .lst xs => .ok (!xs.isEmpty)
  | .tup xs => .ok (!xs.isEmpty)
  | _ => .bad
@[simp] def dIn : D → D → Res D
  | .str [c], .str x => .ok (.bl (x.contains c))
  | k, .dct t kvs => if fitK t k then .ok (.bl (lookD kvs k).isSome) else .bad
  | a, .lst xs => if (a.flat && xs.all D.flat) || (a.good && (D.lst xs).good) then .ok (.bl (xs.any fun x => D.eq x a)) else .bad
  | a, .tup xs => if a.flat && xs.all D.flat then .ok (.bl (xs.any fun x => D.eq x a)) else .bad
  | _, _ => .bad
@[simp] def notB : D → Res D
  | .bl b => .ok (.bl (!b))
  | _ => .bad
@[simp] def dNotIn (a b : D) : Res D := (dIn a b).bind notB
/-- d.get(k, x) -/
@[simp] def dGet (d k x : D) : Res D := match d with
  | .dct t kvs => if fitK t k then .ok ((lookD kvs k).getD x) else .bad
  | _ => .bad

theorem atI_nat {α : Type} (xs : List α) (i : Nat) : atI xs (i : Int) = xs[i]? := by
  unfold atI ixN
  by_cases h : (i : Int) < xs.length
  · rw [if_pos (Int.natCast_nonneg i), if_pos h]; simp
  · rw [if_pos (Int.natCast_nonneg i), if_neg h]
    simp; omega
@[simp] theorem atI_0 {α : Type} (xs : List α) : atI xs 0 = xs[0]? := atI_nat xs 0
@[simp] theorem atI_1 {α : Type} (xs : List α) : atI xs 1 = xs[1]? := atI_nat xs 1
@[simp] theorem atI_2 {α : Type} (xs : List α) : atI xs 2 = xs[2]? := atI_nat xs 2
@[simp] theorem atI_3 {α : Type} (xs : List α) : atI xs 3 = xs[3]? := atI_nat xs 3
@[simp] theorem atI_n {α : Type} (xs : List α) (i : Nat) : atI xs (i : Int) = xs[i]? := atI_nat xs i

/-! ### expressions -/
@[simp] def var (i : Nat) : EX := fun ρ => match ρ[i]? with
  | some (.pl d) => .ok d
  | _ => .bad
/-- looked at, not handed on -/
@[simp] def varB (i : Nat) : EX := fun ρ => match ρ[i]? with
  | some (.pl d) => .ok d
  | some (.own d) => .ok d
  | _ => .bad
@[simp] def con (d : D) : EX := fun _ => .ok d
@[simp] def un (op : D → Res D) (a : EX) : EX := fun ρ => (a ρ).bind op
@[simp] def bin (op : D → D → Res D) (a b : EX) : EX := fun ρ => (a ρ).bind fun x => (b ρ).bind fun y => op x y
@[simp] def tri (op : D → D → D → Res D) (a b c : EX) : EX := fun ρ => (a ρ).bind fun x => (b ρ).bind fun y => (c ρ).bind fun z => op x y z
@[simp] def anil : AX := fun _ => .ok []
@[simp] def acons (a : EX) (r : AX) : AX := fun ρ => (a ρ).bind fun x => (r ρ).bind fun xs => .ok (x :: xs)
@[simp] def tupE (a : AX) : EX := fun ρ => (a ρ).bind fun xs => if xs.length ≤ line then .ok (.tup xs) else .bad
@[simp] def lstE (a : AX) : EX := fun ρ => (a ρ).bind fun xs => if xs.length ≤ line then .ok (.lst xs) else .bad
/-- as a value: True or False -/
@[simp] def andE (a b : EX) : EX := fun ρ => (a ρ).bind fun x => match x with
  | .bl true => b ρ
  | .bl false => .ok (.bl false)
  | _ => .bad
@[simp] def orE (a b : EX) : EX := fun ρ => (a ρ).bind fun x => match x with
  | .bl true => .ok (.bl true)
  | .bl false => b ρ
  | _ => .bad
@[simp] def ifE (t : TX) (a b : EX) : EX := fun ρ => (t ρ).bind fun c => if c = true then a ρ else b ρ
/-- a op b op' c -/
@[simp] def chainE (op op' : D → D → Res D) (a b c : EX) : EX := fun ρ => (a ρ).bind fun x => (b ρ).bind fun y => (op x y).bind fun k => match k with
  | .bl true => (c ρ).bind fun z => op' y z
  | .bl false => .ok (.bl false)
  | _ => .bad
/-- tests -/
@[simp] def tst (a : EX) : TX := fun ρ => (a ρ).bind dTruth
@[simp] def tstB (a : EX) : TX := fun ρ => (a ρ).bind fun x => match x with
  | .bl b => .ok b
  | _ => .bad
@[simp] def andT (a b : TX) : TX := fun ρ => (a ρ).bind fun x => if x = true then b ρ else .ok false
@[simp] def orT (a b : TX) : TX := fun ρ => (a ρ).bind fun x => if x = true then .ok true else b ρ
@[simp] def notT (a : TX) : TX := fun ρ => (a ρ).bind fun x => .ok (!x)
/-- not a, as a value -/
@[simp] def notE (t : TX) : EX := fun ρ => (t ρ).bind fun x => .ok (.bl (!x))
@[simp] def okP : Option EX → Env → Res (Option Int)
  | none, _ => .ok none
  | some e, ρ => (e ρ).bind fun d => match d with
    | .int i => .ok (some i)
    | _ => .bad
@[simp] def cutE (a : EX) (lo hi : Option EX) : EX := fun ρ => (a ρ).bind fun x => (okP lo ρ).bind fun l => (okP hi ρ).bind fun h => dCut x l h

/-! ### built-in functions and methods -/
@[simp] def dInt : D → Res D
  | .int i => .ok (.int i)
  | .bl b => .ok (.int (if b then 1 else 0))
  | _ => .bad
@[simp] def dTuple : D → Res D
  | .lst xs => .ok (.tup xs)
  | .tup xs => .ok (.tup xs)
  | _ => .bad
@[simp] def dList : D → Res D
  | .lst xs => .ok (.lst xs)
  | .tup xs => .ok (.lst xs)
  | .str x => if x.length ≤ line then .ok (.lst (x.map fun c => .str [c])) else .bad
  | _ => .bad
inductive KT where
  | int | bool | str | tuple | list
  deriving DecidableEq
@[simp] def isT (t : KT) : D → Bool
  | .int _ => decide (t = .int)
  | .bl _ => decide (t = .int) || decide (t = .bool)
  | .str _ => decide (t = .str)
  | .tup _ => decide (t = .tuple)
  | .lst _ => decide (t = .list)
  | .scr _ => decide (t = .list)
  | _ => false
@[simp] def D.dT : D → Bool
  | .dct true _ => true
  | _ => false
@[simp] def dIsi (t : KT) (d : D) : Res D := if d.dT then .bad else .ok (.bl (isT t d))
@[simp] def isS : D → Bool
  | .str _ => true
  | _ => false
@[simp] def isL : D → Bool
  | .lst _ => true
  | _ => false
/-- o.m(x), o of a kind -/
@[simp] def meth (k : D → Bool) (op : D → D → Res D) (a b : EX) : EX := fun ρ => (a ρ).bind fun x => if k x then (b ρ).bind fun y => op x y else .bad
@[simp] def dCount : D → D → Res D
  | .lst xs, y => if y.flat && xs.all D.flat then .ok (.int (xs.countP fun x => D.eq x y)) else .bad
  | _, _ => .bad
def txts : List D → Option (List Txt)
  | [] => some []
  | .str x :: r => (txts r).map (x :: ·)
  | _ => none
def lens (xs : List Txt) : Nat := (xs.map List.length).sum
def joinT (s : Txt) : List Txt → Txt
  | [] => []
  | [x] => x
  | x :: y :: r => x ++ s ++ joinT s (y :: r)
def dJoin : D → D → Res D
  | .str s, .lst xs => match txts xs with
    | some ys => if lens ys + ys.length * s.length ≤ line then .ok (.str (joinT s ys)) else .bad
    | none => .bad
  | _, _ => .bad
/-- where a sign stands first -/
def signIx (c : Nat) : Txt → Option Nat
  | [] => none
  | d :: r => if d = c then some 0 else (signIx c r).map (· + 1)
@[simp] def dSIndex : D → D → Res D
  | .str x, .str [c] => match signIx c x with
    | some i => .ok (.int i)
    | none => .bad
  | _, _ => .bad
/-- a dict that stands at the program's top -/
def lookT (ps : List (Txt × D)) (x : Txt) : Option D := (ps.find? fun p => p.1 == x).map (·.2)
@[simp] def dKGet (ps : List (Txt × D)) (k x : D) : Res D := match k with
  | .str z => .ok ((lookT ps z).getD x)
  | _ => .bad
@[simp] def dKIn (ps : List (Txt × D)) (k : D) : Res D := match k with
  | .str z => .ok (.bl (lookT ps z).isSome)
  | _ => .bad
@[simp] def dKIx (ps : List (Txt × D)) (k : D) : Res D := match k with
  | .str z => ofO (lookT ps z)
  | _ => .bad
/-- d.get(k, x) -/
@[simp] def isDct : D → Bool
  | .dct _ _ => true
  | _ => false
@[simp] def meth2 (k : D → Bool) (op : D → D → D → Res D) (a b c : EX) : EX := fun ρ => (a ρ).bind fun x => if k x then (b ρ).bind fun y => (c ρ).bind fun z => op x y z else .bad
/-- a display of a dict -/
abbrev PX := Env → Res (List (D × D))
@[simp] def pnil : PX := fun _ => .ok []
@[simp] def pcons (a b : EX) (r : PX) : PX := fun ρ => (a ρ).bind fun k => (b ρ).bind fun v => (r ρ).bind fun ps => .ok ((k, v) :: ps)
@[simp] def putAll (ps : List (D × D)) : List (D × D) := ps.foldl (fun acc p => putD acc p.1 p.2) []
@[simp] def dctE (r : PX) : EX := fun ρ => (r ρ).bind fun ps => if (ps.all fun p => fitK false p.1) && decide (ps.length ≤ 15) then .ok (.dct false (putAll ps)) else .bad
/-- sorted(set(x)) of truths, numbers or texts -/
def insD (lt : D → D → Bool) (x : D) : List D → List D
  | [] => [x]
  | y :: r => if D.eq x y then y :: r else if lt x y then x :: y :: r else y :: insD lt x r
def D.lt1 : D → D → Bool
  | .bl a, .bl b => !a && b
  | .int i, .int j => decide (i < j)
  | .str x, .str y => decide (x < y)
  | _, _ => false
def D.isBl : D → Bool
  | .bl _ => true
  | _ => false
def D.isIn : D → Bool
  | .int _ => true
  | _ => false
def kind1 (xs : List D) : Bool := xs.all D.isBl || (xs.all D.isIn || xs.all isS)
def dSSet : D → Res D
  | .lst xs => if kind1 xs && decide (xs.length < 1000) then .ok (.lst (xs.foldr (insD D.lt1) [])) else .bad
  | _ => .bad

/-! ### targets -/
@[simp] def gSet (i : Nat) : GX := fun d ρ => .ok (ρ.set i (.pl d))
@[simp] def gTup (is : List Nat) : GX := fun d ρ => match d with
  | .tup xs => if xs.length = is.length then .ok ((is.zip xs).foldl (fun ρ p => ρ.set p.1 (.pl p.2)) ρ) else .bad
  | _ => .bad

/-! ### what is walked -/
@[simp] def items : D → Res (List D)
  | .lst xs => .ok xs
  | .tup xs => .ok xs
  | .str x => .ok (x.map fun c => .str [c])
  | _ => .bad
/-- what is walked: of a dict its keys -/
@[simp] def itemsK : D → Res (List D)
  | .lst xs => .ok xs
  | .tup xs => .ok xs
  | .str x => .ok (x.map fun c => .str [c])
  | .dct false kvs => .ok (kvs.map fun p => p.1)
  | _ => .bad
def small62 (i : Int) : Bool := decide (i.natAbs < 4611686018427387904)
def rng (lo hi : Int) : List D := (List.range (hi - lo).toNat).map fun i => .int (lo + (i : Nat))
@[simp] def src (e : EX) : AX := fun ρ => (e ρ).bind itemsK
@[simp] def srcR1 (e : EX) : AX := fun ρ => (e ρ).bind fun d => match d with
  | .int j => if small62 j then .ok (rng 0 j) else .bad
  | _ => .bad
@[simp] def srcR2 (a b : EX) : AX := fun ρ => (a ρ).bind fun x => (b ρ).bind fun y => match x, y with
  | .int i, .int j => if small62 i && small62 j then .ok (rng i j) else .bad
  | _, _ => .bad
def zipD : List D → List D → List D
  | x :: xs, y :: ys => .tup [x, y] :: zipD xs ys
  | _, _ => []
/-- zip of two lists, tuples, texts -/
@[simp] def srcZip (a b : EX) : AX := fun ρ => (a ρ).bind fun x => (b ρ).bind fun y => (items x).bind fun xs => (items y).bind fun ys => .ok (zipD xs ys)

/-! ### loops -/
/-- for x in items: body; f stores an item and runs the body -/
def forL (f : D → Env → Out) : List D → Env → Out
  | [], ρ => .nx ρ
  | x :: r, ρ => match f x ρ with
    | .nx ρ' => forL f r ρ'
    | .ct ρ' => forL f r ρ'
    | .bk ρ' => .nx ρ'
    | .rt d => .rt d
    | .rs c ρ' => .rs c ρ'
    | .bad => .bad
def whileL (t : TX) (b : SX) : Nat → Env → Out
  | 0, _ => .bad
  | n + 1, ρ => match t ρ with
    | .ok true => match b ρ with
      | .nx ρ' => whileL t b n ρ'
      | .ct ρ' => whileL t b n ρ'
      | .bk ρ' => .nx ρ'
      | .rt d => .rt d
      | .rs c ρ' => .rs c ρ'
      | .bad => .bad
    | .ok false => .nx ρ
    | .rs c => .rs c ρ
    | .bad => .bad
/-- a call of a def -/
@[simp] def callE (run : List D → Res D) (r : AX) : EX := fun ρ => (r ρ).bind run
/-- a block whose own names are set anew in each turn: the items that pass, through e -/
def compL (g : GX) (t : TX) (e : EX) : List D → Env → Res (List D)
  | [], _ => .ok []
  | x :: r, ρ => match g x ρ with
    | .ok ρ' => match t ρ' with
      | .ok true => match e ρ' with
        | .ok y => (compL g t e r ρ).bind fun ys => .ok (y :: ys)
        | .rs c => .rs c
        | .bad => .bad
      | .ok false => compL g t e r ρ
      | .rs c => .rs c
      | .bad => .bad
    | .rs c => .rs c
    | .bad => .bad
/-- the block's own names forgotten -/
@[simp] def wipe (ρ : Env) : List Nat → Env
  | [] => ρ
  | v :: vs => (wipe ρ vs).set v .dead
/-- a comprehension: nothing is raised out of it -/
@[simp] def comp (src : AX) (own : List Nat) (g : GX) (t : TX) (e : EX) : EX := fun ρ => (src ρ).bind fun xs =>
  match compL g t e xs (wipe ρ own) with
  | .ok ys => if xs.length ≤ line then .ok (.lst ys) else .bad
  | _ => .bad
@[simp] def yes : TX := fun _ => .ok true

/-! ### statements -/
@[simp] def ofE (r : Res D) (ρ : Env) (k : D → Out) : Out := match r with
  | .ok d => k d
  | .rs c => .rs c ρ
  | .bad => .bad
@[simp] def sSeq (a b : SX) : SX := fun ρ => match a ρ with
  | .nx ρ' => b ρ'
  | o => o
@[simp] def sNx : SX := fun ρ => .nx ρ
@[simp] def sSet (i : Nat) (e : EX) : SX := fun ρ => ofE (e ρ) ρ fun d => .nx (ρ.set i (.pl d))
/-- a new list or dict that is to be changed -/
@[simp] def sOwn (i : Nat) (e : EX) : SX := fun ρ => ofE (e ρ) ρ fun d => match d with
  | .lst _ => .nx (ρ.set i (.own d))
  | .dct _ _ => .nx (ρ.set i (.own d))
  | _ => .nx (ρ.set i (.pl d))
/-- x = y: y's own list is y's no more -/
@[simp] def sMv (i j : Nat) : SX := fun ρ => match ρ[j]? with
  | some (.pl d) => .nx (ρ.set i (.pl d))
  | some (.own d) => .nx ((ρ.set j .dead).set i (.pl d))
  | _ => .bad
@[simp] def sUnp (g : GX) (e : EX) : SX := fun ρ => ofE (e ρ) ρ fun d => match g d ρ with
  | .ok ρ' => .nx ρ'
  | .rs c => .rs c ρ
  | .bad => .bad
/-- a, b = x, y -/
@[simp] def sPar (is : List Nat) (a : AX) : SX := fun ρ => match a ρ with
  | .ok xs => if xs.length = is.length then .nx ((is.zip xs).foldl (fun ρ p => ρ.set p.1 (.pl p.2)) ρ) else .bad
  | .rs c => .rs c ρ
  | .bad => .bad
@[simp] def sExp (e : EX) : SX := fun ρ => ofE (e ρ) ρ fun _ => .nx ρ
@[simp] def sRet (e : EX) : SX := fun ρ => ofE (e ρ) ρ fun d => .rt d
@[simp] def sRetN : SX := fun _ => .rt .non
@[simp] def D.mut : D → Bool
  | .lst _ => true
  | .dct _ _ => true
  | _ => false
/-- return x -/
@[simp] def sRetV (i : Nat) : SX := fun ρ => match ρ[i]? with
  | some (.pl d) => .rt d
  | some (.own d) => .rt d
  | _ => .bad
/-- return x, of a def that hands back new lists alone -/
@[simp] def sRetF (i : Nat) : SX := fun ρ => match ρ[i]? with
  | some (.pl d) => if d.mut then .bad else .rt d
  | some (.own d) => .rt d
  | _ => .bad
@[simp] def sIf (t : TX) (a b : SX) : SX := fun ρ => match t ρ with
  | .ok true => a ρ
  | .ok false => b ρ
  | .rs c => .rs c ρ
  | .bad => .bad
@[simp] def sBrk : SX := fun ρ => .bk ρ
@[simp] def sCnt : SX := fun ρ => .ct ρ
@[simp] def sRs (c : Exc) : SX := fun ρ => .rs c ρ
def forF (g : GX) (b : SX) : D → Env → Out := fun x ρ => match g x ρ with
  | .ok ρ' => b ρ'
  | .rs c => .rs c ρ
  | .bad => .bad
@[simp] def sFor (src : AX) (g : GX) (b : SX) : SX := fun ρ => match src ρ with
  | .ok xs => forL (forF g b) xs ρ
  | .rs c => .rs c ρ
  | .bad => .bad
def sWhile (n : Nat) (t : TX) (b : SX) : SX := whileL t b n
/-- x.append(e) -/
@[simp] def sApp (i : Nat) (e : EX) : SX := fun ρ => match ρ[i]? with
  | some (.own (.lst xs)) => ofE (e ρ) ρ fun d => if xs.length < line then .nx (ρ.set i (.own (.lst (xs ++ [d])))) else .bad
  | _ => .bad
/-- x.extend(e), e another list -/
@[simp] def sExt (i : Nat) (e : EX) : SX := fun ρ => match ρ[i]? with
  | some (.own (.lst xs)) => ofE (e ρ) ρ fun d => match d with
    | .lst ys => if xs.length + ys.length ≤ line then .nx (ρ.set i (.own (.lst (xs ++ ys)))) else .bad
    | _ => .bad
  | _ => .bad
/-- y = x.pop() -/
@[simp] def sPop (j i : Nat) : SX := fun ρ => match ρ[i]? with
  | some (.own (.lst xs)) => match xs[xs.length - 1]? with
    | some d => .nx ((ρ.set i (.own (.lst xs.dropLast))).set j (.pl d))
    | none => .bad
  | _ => .bad
/-- o[k] = v, by data -/
@[simp] def putO (o y d : D) : Option D := match o, y with
  | .lst xs, .int n => (ixN xs.length n).map fun j => .lst (xs.set j d)
  | .dct t kvs, y => if fitK t y && decide (kvs.length < line) then some (.dct t (putD kvs y d)) else none
  | _, _ => none
/-- x[k] = v -/
@[simp] def sPut (i : Nat) (k v : EX) : SX := fun ρ => ofE (v ρ) ρ fun d => match ρ[i]? with
  | some (.own o) => ofE (k ρ) ρ fun y => match putO o y d with
    | some o' => .nx (ρ.set i (.own o'))
    | none => .bad
  | _ => .bad
@[simp] def catches (h c : Exc) : Bool := decide (h = .sayError) || decide (h = c)
@[simp] def noRs (o : Out) : Out := match o with
  | .rs _ _ => .bad
  | o => o
/-- try: b except h: s; cs: the classes there are -/
@[simp] def tryH (hs : List (Exc × SX)) (c : Exc) (ρ : Env) : Out := match hs with
  | [] => .rs c ρ
  | (h, s) :: r => if catches h c = true then noRs (s ρ) else tryH r c ρ
@[simp] def sTry (cs : List Exc) (b : SX) (hs : List (Exc × SX)) : SX := fun ρ => match b ρ with
  | .rs c ρ' => if cs.contains c then tryH hs c ρ' else .bad
  | o => o

/-! ### defs -/
/-- a def's body over its arguments: n slots in all -/
@[simp] def runB (n : Nat) (b : SX) (ds : List D) : Res D := match b (ds.map .pl ++ List.replicate (n - ds.length) .dead) with
  | .nx _ => .ok .non
  | .rt d => .ok d
  | .rs c _ => .rs c
  | _ => .bad
end SR

set_option linter.all false
set_option autoImplicit false
set_option Elab.async false
set_option maxRecDepth 100000
set_option maxHeartbeats 2000000
/-! SF: tuples that a def makes, each known to the object (its own dict is none): the makers anew. -/
namespace SR
open PySem PySem.Spec PyProof.Rows L2 TL
/-- a new tuple, known to the object -/
abbrev NewT (H : Hp) (vs : List V) (Q : VK) : Prop := ∀ p o, H p = none → o.dict = none → Q (.ref p) (upd H p (.frz o (.tup vs)))
section
variable {X : Cx} {pins : List (Addr × Obj)} {σ : L2.St} {H : Hp} {s : Shared}
/-- the object of a new tuple -/
abbrev tupOb (its : List Value) : Obj := { cls := .type "tuple", data := .seq its.toArray }
theorem laidT {h' : Heap} {t' : Nat} {vs : List V} {its : List Value} {Q : VK} (I : Inv X pins σ H { s with heap := h', toks := t' }) (z : vs.length ≤ sizeLine) (r : Vals vs its) (q : NewT H vs Q) :
    EP X pins σ Q (.ref h'.objs.size) { s with heap := h'.push (tupOb its), toks := t' } :=
  ⟨.ref h'.objs.size, _, I.laid (a := h'.objs.size) (o := .frz (tupOb its) (.tup vs)) (t' := t') (fun b u e => Heap.get?_push_of_some _ e) (Nat.le_refl _) ⟨Heap.get?_push_size _ rfl, z, its, r, IsTup.new _ _⟩, rfl, q _ _ (I.hok.fresh (Nat.le_refl _)) rfl⟩
def tTupF (t : TA) : TE := fun σ H Q => t σ H fun xs H1 => xs.length ≤ sizeLine ∧ NewT H1 xs Q
theorem pe_tupF {es : List Expr} {t : TA} {x1} {pos : Pos} (h : PA X es t) : PE X (.Tuple es x1 pos) (tTupF t) := by
  refine ⟨fun pins s σ H Q I hq => ?_⟩
  exact wpAny_Tuple_spliced (thn (h.run pos pins s σ H _ I hq) fun us s1 ⟨xs, H1, I1, r, z, q⟩ => ⟨by rw [← r.length]; exact z, laidT I1 z r q⟩)
def rCatF (K : PySem.W.Frag) : R2 := fun x y H Q => ∃ a b xs ys, x = .ref a ∧ y = .ref b ∧ SqT K H a xs ∧ SqT K H b ys ∧ xs.length + ys.length ≤ sizeLine ∧
  (xs = [] → Q (.ref b) H) ∧ (xs ≠ [] → ys = [] → Q (.ref a) H) ∧ (xs ≠ [] → ys ≠ [] → NewT H (xs ++ ys) Q)
theorem op_catF : OpR X (binaryOp .Add) (rCatF X.K) := by
  intro pins s σ H x y v u Q I rx ry h
  obtain ⟨a, b, xs, ys, rfl, rfl, ha, hb, hz, q0, q1, q2⟩ := h
  cases rx
  cases ry
  obtain ⟨its, r1, p1, _⟩ := I.tuple ha
  obtain ⟨its2, r2, p2, _⟩ := I.tuple hb
  by_cases hx : xs = []
  · subst hx
    cases r1
    exact cat_tup0 p1 p2 ⟨.ref b, H, I, rfl, q0 rfl⟩
  · refine HT.cat_tup p1 p2 (fun z => hx (r1.nil_iff.mp z)) (fun z => ⟨.ref a, H, I, rfl, q1 hx (r2.nil_iff.mp z)⟩) (fun z => ?_) (by rw [← r1.length, ← r2.length]; exact hz)
    exact laidT I (by rw [List.length_append]; exact hz) (r1.append r2) (q2 hx fun w => z (r2.nil_iff.mpr w))
def rSlF (K : PySem.W.Frag) : V → Option Int → Option Int → Hp → VK → Prop := fun x lo hi H Q => ∃ a xs, x = .ref a ∧ SqT K H a xs ∧
  (HT.sIx xs.length 0 lo = 0 ∧ HT.sIx xs.length xs.length hi = xs.length → Q (.ref a) H) ∧ (¬ (HT.sIx xs.length 0 lo = 0 ∧ HT.sIx xs.length xs.length hi = xs.length) → NewT H (cutV xs lo hi) Q)
theorem sl_tupF : SlR X (rSlF X.K) := by
  intro pins s σ H x v vl vu lo hi sl Q I rx hs pl pu h
  obtain ⟨a, xs, rfl, hx, q1, q2⟩ := h
  cases rx
  obtain ⟨its, r, ht, hz⟩ := I.tuple hx
  have hlen : its.toArray.size = xs.length := by rw [List.size_toArray]; exact r.length.symm
  refine ⟨"tuple", _, PyProof.Rows.slot_tuple_getitem.lookup, ht.typeIs, ?_⟩
  by_cases hw : HT.sIx xs.length 0 lo = 0 ∧ HT.sIx xs.length xs.length hi = xs.length
  · exact getItem_tuple_whole ht hs pl pu (by rw [hlen]; exact hw) ⟨.ref a, H, I, rfl, q1 hw⟩
  · refine HT.getItem_tuple_cut ht hs pl pu (by rw [hlen]; exact hw) ?_ (by rw [hlen]; exact hz)
    rw [hlen]
    exact laidT I (Nat.le_trans (cutV_length xs lo hi) hz) ((r.drop (HT.sIx xs.length 0 lo)).take (HT.sIx xs.length xs.length hi - HT.sIx xs.length 0 lo)) (q2 hw)
theorem call_tupleF : CallR X (.type "tuple") (fun xs H Q => ∃ p ys, xs = [.ref p] ∧ ((SqL X.K H p ys ∧ NewT H ys Q) ∨ (SqT X.K H p ys ∧ Q (.ref p) H))) := by
  intro pins s σ H xs us Q I r h
  obtain ⟨p, ys, rfl, h⟩ := h
  obtain ⟨u, rfl, rx⟩ := vals1 r
  cases rx
  rcases h with ⟨hq, q⟩ | ⟨hq, q⟩
  · obtain ⟨its, r', pl, hz⟩ := I.list hq
    have hlen := r'.length
    refine call_tuple_list pl.isList (fun h' kp => ?_) (by simp only [List.size_toArray] <;> omega)
    exact laidT (I.kept (t' := s.toks) kp) hz r' q
  · obtain ⟨its, r', pl, hz⟩ := I.tuple hq
    exact call_tuple_same pl ⟨.ref p, H, I, rfl, q⟩
def rRepF (K : PySem.W.Frag) : R2 := fun x y H Q => ∃ l k xs, x = .ref l ∧ y = .int k ∧ SqT K H l xs ∧ xs ≠ [] ∧ 2 ≤ k ∧ k ≤ 1000 ∧ xs.length ≤ 1000 ∧ NewT H (List.replicate k.toNat xs).flatten Q
theorem op_repF : OpR X (binaryOp .Mult) (rRepF X.K) := by
  intro pins s σ H x y v u Q I rx ry h
  obtain ⟨l, k, xs, rfl, rfl, hT, hne, h1, h2, hz, q⟩ := h
  cases rx
  obtain ⟨t, rfl⟩ := ry
  obtain ⟨its, r, ⟨⟨cls, dd, data, sl⟩, ho, hc, n, hd⟩, hs⟩ := I.tuple hT
  simp only at hc hd
  subst hc hd
  have hle : its.length = xs.length := r.length.symm
  have hn : its ≠ [] := fun e => hne (by
    rw [e] at hle
    exact List.eq_nil_of_length_eq_zero hle.symm)
  have hi : its.toArray.isEmpty = false := by
    cases its with
    | nil => exact absurd rfl hn
    | cons a b => rfl
  have hsz0 : its.toArray.size = xs.length := by rw [List.size_toArray, hle]
  have hm : ((its.toArray.size : Nat) : Int) * k ≤ 1000000 := by
    rw [hsz0]
    have a1 : ((xs.length : Nat) : Int) * k ≤ 1000 * k := Int.mul_le_mul_of_nonneg_right (by omega) (by omega)
    omega
  have flen : (List.replicate k.toNat its).flatten.length ≤ sizeLine := by
    rw [PyProof.Rows.lm_len_rep_flat, hle, sizeLine_eq]
    have a1 : k.toNat * xs.length ≤ 1000 * 1000 := Nat.mul_le_mul (by omega) hz
    omega
  have c0 : (decide (k < -(2 ^ 63)) || decide (k ≥ 2 ^ 63)) = false := by
    rw [decide_eq_false (by omega), decide_eq_false (by omega)] <;> rfl
  have c1 : (its.toArray.isEmpty || k == 1) = false := by
    rw [hi, Bool.false_or]
    exact beq_eq_false_iff_ne.mpr (by omega)
  have c2 : (decide (k ≤ 0) || its.toArray.isEmpty) = false := by
    rw [hi, Bool.or_false]
    exact decide_eq_false (by omega)
  have c4 : Builtin.Tuple.tupleTooMany (((its.toArray.size : Nat) : Int) * k) = false := by
    unfold Builtin.Tuple.tupleTooMany
    rw [sizeLine_eq]
    exact decide_eq_false (by omega)
  refine wpAny_binaryOp_repeat_ref (T := "tuple") (U := "int") (by decide) ⟨_, ho, rfl⟩ (fun s' => typeIs_int s' k t) noFill_tuple_mul F.fills_int_mul F.slot_int_rmul repeat_tuple F.slot_int_index.lookup
    (call_meets F.slot_int_rmul (typeIs_int s k t) F.entry_int_rmul (F.args_int_rmul_2 _ _) (int_rmul_tuple k t l its.toArray n dd sl)
      ⟨ho, rfl, ⟨_, ho, rfl⟩, call_meets F.slot_tuple_mul ⟨_, ho, rfl⟩ F.entry_tuple_mul (F.args_tuple_mul_2 _ _) (tuple_mulW l its.toArray n dd sl k t c0 c1 c2 (by omega) c4 (by rw [size_rep, List.size_toArray]; exact flen)) ⟨ho, ?_⟩⟩)
  rw [size_rep]
  exact laidT (t' := s.toks) I (by rw [PyProof.Rows.lm_len_rep_flat, sizeLine_eq]; have a1 : k.toNat * xs.length ≤ 1000 * 1000 := Nat.mul_le_mul (by omega) hz; omega) (r.rep k.toNat) q
def tTupRgF (te : L2.St → Hp → (Int → Int → Hp → Prop) → Prop) : TE := fun σ H Q => te σ H fun a b H1 => RgOk a b ∧ NewT H1 (rgV a b) Q
theorem pe_tupRgF {e : Expr} {te : L2.St → Hp → (Int → Int → Hp → Prop) → Prop} {p pos : Pos} (hc : X.calm = true) (hg : Gl X "tuple") (hm : X.mg "tuple" = none) (he : PRg X e te) (na : starEach [e] X.env = (false, eval e X.env) :: starEach [] X.env := by rfl) : PE X (.Call (.Name "tuple" p) [e] [] pos) (tTupRgF te) := by
  refine ⟨fun pins s σ H Q I h => ?_⟩
  refine Call_ (ld_blt I hg hm boot_tuple (PyProof.Rows.callWith_type1 (args_cons (thn (he pins s σ H _ I h) fun x s1 ⟨r, a, b, t, u, v, H1, ex, hr, I1, ok, q⟩ => args_nil ?_) na) na))
  subst ex
  obtain ⟨b1, b2, b3, b4, b5⟩ := ok
  refine call_tuple_range (n := (b - a).toNat) (I1.ok.hd hc) hr (small_one b1 b2 b3 b4) (rangeSize_nat a b) b5 fun h' tk acc hk hi => ?_
  have I2 : Inv X pins σ H1 { s1 with heap := h', toks := tk } := I1.kept hk
  have := laidT (s := s1) (h' := h') (t' := tk) (its := acc.toList) I2 (by rw [rgV_length, sizeLine_eq]; omega) (vals_rg hi) q
  unfold tupOb at this
  rw [Array.toArray_toList] at this
  exact this
end
end SR

set_option linter.all false
set_option autoImplicit false
set_option Elab.async false
set_option maxRecDepth 100000
/-! SRb: how plain data stands in the abstract heap; the readings of pure expressions. -/
namespace SR
abbrev Sg := L2.St
open PySem PySem.Spec PyProof.Rows L2 TL

/-! ### heaps -/
theorem same_none {H H' : Hp} (h : Same H H') {a : Addr} (e : H' a = none) : H a = none := Same.free h e
theorem same_ne {H H' : Hp} (h : Same H H') {a : Addr} (e : H a ≠ none) : H' a ≠ none := by
  cases q : H a with
  | none => exact absurd q e
  | some o => rw [h a o q]; exact fun z => by cases z
theorem same_updN {H : Hp} {p : Addr} {o : HO} (h : H p = none) : Same H (upd H p o) := fun b x e => by
  rw [upd_ne (ne_of_none e h)]; exact e
/-- a list or dict that may be changed -/
def Mv : Option HO → Prop
  | some (.lst _) => True
  | some (.dK _) => True
  | some (.dT _) => True
  | _ => False
theorem mv_same {H H' : Hp} (h : Same H H') {a : Addr} (e : Mv (H a)) : Mv (H' a) := by
  cases q : H a with
  | none => rw [q] at e; exact e.elim
  | some o => rw [h a o q, ← q]; exact e
theorem mv_no {H : Hp} {a : Addr} (h : H a = none) (e : Mv (H a)) : False := by rw [h] at e; exact e
/-- from (H, G) on: all that stood stands; the ground G grows within the heap, by new objects alone -/
structure Ext (H G H' G' : Hp) : Prop where
  hh : Same H H'
  gg : Same G G'
  gh : Same G' H'
  out : ∀ a, Mv (H a) → G a = none → G' a = none
theorem Ext.refl {H G : Hp} (s : Same G H) : Ext H G H G := ⟨Same.refl _, Same.refl _, s, fun _ _ e => e⟩
theorem Ext.trans {H G H1 G1 H2 G2 : Hp} (a : Ext H G H1 G1) (b : Ext H1 G1 H2 G2) : Ext H G H2 G2 :=
  ⟨a.hh.trans b.hh, a.gg.trans b.gg, b.gh, fun x h1 h2 => b.out x (mv_same a.hh h1) (a.out x h1 h2)⟩
/-- a new object in the ground -/
theorem Ext.new {H G : Hp} {p : Addr} {o : HO} (s : Same G H) (hp : H p = none) : Ext H G (upd H p o) (upd G p o) := by
  have gp : G p = none := same_none s hp
  refine ⟨same_updN hp, same_updN gp, fun b x e => ?_, fun a h1 h2 => ?_⟩
  · by_cases hb : b = p
    · subst hb; rw [upd_same] at e ⊢; exact e
    · rw [upd_ne hb] at e ⊢; exact s b x e
  · rw [upd_ne (fun z => by subst z; exact mv_no hp h1)]; exact h2
/-- a new object outside of the ground -/
theorem Ext.newO {H G : Hp} {p : Addr} {o : HO} (s : Same G H) (hp : H p = none) : Ext H G (upd H p o) G :=
  ⟨same_updN hp, Same.refl _, s.trans (same_updN hp), fun _ _ e => e⟩
theorem Ext.toG {H G H' G' : Hp} {p : Addr} {o : HO} (x : Ext H G H' G') (hp : H p = none) (g : G' p = none) (e : H' p = some o) : Ext H G H' (upd G' p o) := by
  refine ⟨x.hh, x.gg.trans (same_updN g), fun b u q => ?_, fun a h1 h2 => ?_⟩
  · by_cases hb : b = p
    · subst hb; rw [upd_same] at q; cases q; exact e
    · rw [upd_ne hb] at q; exact x.gh b u q
  · rw [upd_ne (fun z => by subst z; exact mv_no hp h1)]; exact x.out a h1 h2

/-! ### data in the heap -/
def D.dc : D → Bool
  | .dct _ _ => true
  | _ => false
def keyD : Key → D
  | .inl i => .int i
  | .inr z => .str (tl z)
section
variable (K : PySem.W.Frag)
inductive Rep (G : Hp) : V → D → Prop
  | non : Rep G .non .non
  | bl (b : Bool) : Rep G (.bl b) (.bl b)
  | int (i : Int) : Rep G (.int i) (.int i)
  | str (z : Str) : Rep G (.str z) (.str (tl z))
  /-- one of the tuples that stand at the program's top: a yes, a no -/
  | tupK {a : Addr} {z : Str} : SqT K (fun _ => none) a [.str z] → (tl z = [121, 101, 115] ∨ tl z = [110, 111]) → Rep G (.ref a) (.tup [.str (tl z)])
  | tup {a : Addr} {o : Obj} {vs : List V} {xs : List D} : G a = some (.frz o (.tup vs)) → o.dict = none → vs.length = xs.length → (∀ (i : Nat) (v : V) (x : D), vs[i]? = some v → xs[i]? = some x → Rep G v x) → Rep G (.ref a) (.tup xs)
  | scr {a : Addr} {ns : List Int} : SqL K G a (ns.map V.int) → Rep G (.ref a) (.scr ns)
  | lst {a : Addr} {vs : List V} {xs : List D} : G a = some (.lst vs) → vs.length = xs.length → (∀ (i : Nat) (v : V) (x : D), vs[i]? = some v → xs[i]? = some x → Rep G v x) → Rep G (.ref a) (.lst xs)
  | dk {a : Addr} {o : Obj} {kvs : List (Key × V)} {ds : List (D × D)} : G a = some (.frz o (.dK kvs)) → kvs.length = ds.length → (∀ (i : Nat) (p : Key × V) (q : D × D), kvs[i]? = some p → ds[i]? = some q → q.1 = keyD p.1) →
      (∀ (i : Nat) (p : Key × V) (q : D × D), kvs[i]? = some p → ds[i]? = some q → Rep G p.2 q.2) → Rep G (.ref a) (.dct false ds)
  | dt {a : Addr} {o : Obj} {kvs : List (List Key × V)} {ds : List (D × D)} : G a = some (.frz o (.dT kvs)) → kvs.length = ds.length → (∀ (i : Nat) (p : List Key × V) (q : D × D), kvs[i]? = some p → ds[i]? = some q → q.1 = .tup (p.1.map keyD)) →
      (∀ (i : Nat) (p : List Key × V) (q : D × D), kvs[i]? = some p → ds[i]? = some q → Rep G p.2 q.2) → Rep G (.ref a) (.dct true ds)
/-- a row of values -/
def Reps (G : Hp) (vs : List V) (xs : List D) : Prop := vs.length = xs.length ∧ ∀ (i : Nat) (v : V) (x : D), vs[i]? = some v → xs[i]? = some x → Rep K G v x
/-- rows of a dict -/
def RepK (G : Hp) (kvs : List (Key × V)) (ds : List (D × D)) : Prop := kvs.length = ds.length ∧ ∀ (i : Nat) (p : Key × V) (q : D × D), kvs[i]? = some p → ds[i]? = some q → q.1 = keyD p.1 ∧ Rep K G p.2 q.2
def RepT (G : Hp) (kvs : List (List Key × V)) (ds : List (D × D)) : Prop := kvs.length = ds.length ∧ ∀ (i : Nat) (p : List Key × V) (q : D × D), kvs[i]? = some p → ds[i]? = some q → q.1 = .tup (p.1.map keyD) ∧ Rep K G p.2 q.2
/-- a list or dict of H at p, its items in the ground G -/
inductive Cell (H G : Hp) (p : Addr) : D → Prop
  | lst {vs : List V} {xs : List D} : H p = some (.lst vs) → Reps K G vs xs → Cell H G p (.lst xs)
  | dk {kvs : List (Key × V)} {ds : List (D × D)} : H p = some (.dK kvs) → RepK K G kvs ds → Cell H G p (.dct false ds)
  | dt {kvs : List (List Key × V)} {ds : List (D × D)} : H p = some (.dT kvs) → RepT K G kvs ds → Cell H G p (.dct true ds)
/-- looked at: of the ground, or a list or dict outside of it -/
def RepB (H G : Hp) (v : V) (d : D) : Prop := Rep K G v d ∨ ∃ p, v = .ref p ∧ Cell K H G p d
/-- just made: a new list or dict outside of the ground, or no such thing -/
def RepF (H0 H G : Hp) (v : V) (d : D) : Prop := (Rep K G v d ∧ d.mut = false) ∨ ∃ p, v = .ref p ∧ H0 p = none ∧ G p = none ∧ Cell K H G p d
end
section
variable {K : PySem.W.Frag} {H H' G G' : Hp} {v : V} {d : D}
theorem same_sqL {a : Addr} {xs : List V} (e : Same G G') (h : SqL K G a xs) : SqL K G' a xs := Same.seq e h
theorem same_sqT {a : Addr} {xs : List V} (e : Same G G') (h : SqT K G a xs) : SqT K G' a xs := by
  rcases h with (h | ⟨o, h⟩) | h
  · exact .inl (.inl (e _ _ h))
  · exact .inl (.inr ⟨o, e _ _ h⟩)
  · exact .inr h
theorem same_rd {a : Addr} {u : HO} (e : Same G G') (h : Rd G a u) : Rd G' a u := by
  rcases h with h | ⟨o, h⟩
  · exact .inl (e _ _ h)
  · exact .inr ⟨o, e _ _ h⟩
theorem Rep.same (e : Same G G') (h : Rep K G v d) : Rep K G' v d := by
  induction h with
  | non => exact .non
  | bl b => exact .bl b
  | int i => exact .int i
  | str z => exact .str z
  | tupK s h => exact .tupK s h
  | tup s hd l _ ih => exact .tup (e _ _ s) hd l ih
  | scr s => exact .scr (same_sqL e s)
  | lst s l _ ih => exact .lst (e _ _ s) l ih
  | dk s l k _ ih => exact .dk (e _ _ s) l k ih
  | dt s l k _ ih => exact .dt (e _ _ s) l k ih
theorem Reps.same {vs : List V} {xs : List D} (e : Same G G') (h : Reps K G vs xs) : Reps K G' vs xs := ⟨h.1, fun i v x a b => (h.2 i v x a b).same e⟩
theorem RepK.same {kvs : List (Key × V)} {ds : List (D × D)} (e : Same G G') (h : RepK K G kvs ds) : RepK K G' kvs ds := ⟨h.1, fun i p q a b => ⟨(h.2 i p q a b).1, (h.2 i p q a b).2.same e⟩⟩
theorem RepT.same {kvs : List (List Key × V)} {ds : List (D × D)} (e : Same G G') (h : RepT K G kvs ds) : RepT K G' kvs ds := ⟨h.1, fun i p q a b => ⟨(h.2 i p q a b).1, (h.2 i p q a b).2.same e⟩⟩
theorem Cell.same {p : Addr} (eh : Same H H') (eg : Same G G') (h : Cell K H G p d) : Cell K H' G' p d := by
  cases h with
  | lst a b => exact .lst (eh _ _ a) (b.same eg)
  | dk a b => exact .dk (eh _ _ a) (b.same eg)
  | dt a b => exact .dt (eh _ _ a) (b.same eg)
theorem RepB.same (eh : Same H H') (eg : Same G G') (h : RepB K H G v d) : RepB K H' G' v d := by
  rcases h with h | ⟨p, e, h⟩
  · exact .inl (h.same eg)
  · exact .inr ⟨p, e, h.same eh eg⟩
theorem RepB.ext (x : Ext H G H' G') (h : RepB K H G v d) : RepB K H' G' v d := h.same x.hh x.gg
theorem Rep.b (h : Rep K G v d) : RepB K H G v d := .inl h
theorem RepF.b {H0 : Hp} (h : RepF K H0 H G v d) : RepB K H G v d := by
  rcases h with ⟨h, _⟩ | ⟨p, e, _, _, c⟩
  · exact .inl h
  · exact .inr ⟨p, e, c⟩
theorem Rep.tupI {a : Addr} {o : Obj} {vs : List V} {xs : List D} (s : G a = some (.frz o (.tup vs))) (hd : o.dict = none) (r : Reps K G vs xs) : Rep K G (.ref a) (.tup xs) := .tup s hd r.1 r.2
theorem Rep.lstI {a : Addr} {vs : List V} {xs : List D} (s : G a = some (.lst vs)) (r : Reps K G vs xs) : Rep K G (.ref a) (.lst xs) := .lst s r.1 r.2
/-- a new list goes into the ground; a new dict, once it is locked for good -/
theorem RepF.toGz {H0 G0 : Hp} (x : Ext H0 G0 H G) (h : RepF K H0 H G v d) : (∃ G', Ext H0 G0 H G' ∧ Rep K G' v d) ∨
    ∃ p u, v = .ref p ∧ H p = some u ∧ Mut (some u) ∧ d.dc = true ∧ ∀ od, ∃ G', Ext H0 G0 (upd H p (.frz od u)) G' ∧ Rep K G' v d := by
  rcases h with ⟨h, _⟩ | ⟨p, e, h0, g, c⟩
  · exact .inl ⟨G, x, h⟩
  · subst e
    have go : ∀ od u, H p = some u → Ext H0 G0 (upd H p (.frz od u)) (upd G p (.frz od u)) := fun od u hu =>
      ⟨fun b o e => by rw [upd_ne (ne_of_none e h0)]; exact x.hh b o e, x.gg.trans (same_updN g), fun b o e => by
        by_cases hb : b = p
        · subst hb; rw [upd_same] at e ⊢; exact e
        · rw [upd_ne hb] at e ⊢; exact x.gh b o e, fun a h1 h2 => by
        rw [upd_ne (fun z => by subst z; exact mv_no h0 h1)]; exact x.out a h1 h2⟩
    cases c with
    | lst a b => exact .inl ⟨_, x.toG h0 g a, .lstI upd_same (b.same (same_updN g))⟩
    | dk a b =>
      rename_i kvs ds
      refine .inr ⟨p, _, rfl, a, trivial, rfl, fun od => ⟨_, go od _ a, ?_⟩⟩
      have b' := RepK.same (same_updN (o := .frz od (.dK kvs)) g) b
      exact .dk upd_same b'.1 (fun i p q e1 e2 => (b'.2 i p q e1 e2).1) fun i p q e1 e2 => (b'.2 i p q e1 e2).2
    | dt a b =>
      rename_i kvs ds
      refine .inr ⟨p, _, rfl, a, trivial, rfl, fun od => ⟨_, go od _ a, ?_⟩⟩
      have b' := RepT.same (same_updN (o := .frz od (.dT kvs)) g) b
      exact .dt upd_same b'.1 (fun i p q e1 e2 => (b'.2 i p q e1 e2).1) fun i p q e1 e2 => (b'.2 i p q e1 e2).2
/-! inversions -/
theorem RepB.int {i : Int} (h : RepB K H G v (.int i)) : v = .int i := by
  rcases h with h | ⟨p, _, h⟩
  · cases h; rfl
  · cases h
theorem RepB.bl {i : Bool} (h : RepB K H G v (.bl i)) : v = .bl i := by
  rcases h with h | ⟨p, _, h⟩
  · cases h; rfl
  · cases h
theorem RepB.non (h : RepB K H G v .non) : v = .non := by
  rcases h with h | ⟨p, _, h⟩
  · cases h; rfl
  · cases h
theorem RepB.str {x : Txt} (h : RepB K H G v (.str x)) : ∃ z, v = .str z ∧ tl z = x := by
  rcases h with h | ⟨p, _, h⟩
  · cases h with | str z => exact ⟨z, rfl, rfl⟩
  · cases h
theorem same_empty (H : Hp) : Same (fun _ => none) H := fun _ _ e => by cases e
theorem Rep.tup' {xs : List D} (h : Rep K G v (.tup xs)) : ∃ a vs, v = .ref a ∧ SqT K G a vs ∧ Reps K G vs xs := by
  cases h with
  | tup s hd l r => exact ⟨_, _, rfl, .inl (.inr ⟨_, s⟩), l, r⟩
  | tupK s q =>
    refine ⟨_, _, rfl, same_sqT (same_empty G) s, rfl, fun i v x a b => ?_⟩
    cases i with
    | zero => simp at a b; subst a; subst b; exact .str _
    | succ i => simp at a
theorem RepB.rep (h : RepB K H G v d) (m : D.mut d = false) : Rep K G v d := by
  rcases h with h | ⟨p, _, h⟩
  · exact h
  · cases h <;> cases m
theorem RepB.tup {xs : List D} (h : RepB K H G v (.tup xs)) : ∃ a vs, v = .ref a ∧ SqT K G a vs ∧ Reps K G vs xs := (h.rep rfl).tup'
theorem RepB.lst {xs : List D} (s : Same G H) (h : RepB K H G v (.lst xs)) : ∃ a vs, v = .ref a ∧ H a = some (.lst vs) ∧ Reps K G vs xs := by
  rcases h with h | ⟨p, e, h⟩
  · cases h with | lst q l r => exact ⟨_, _, rfl, s _ _ q, l, r⟩
  · cases h with | lst q r => exact ⟨p, _, e, q, r⟩
theorem Rep.lst' {xs : List D} (h : Rep K G v (.lst xs)) : ∃ a vs, v = .ref a ∧ G a = some (.lst vs) ∧ Reps K G vs xs := by
  cases h with | lst q l r => exact ⟨_, _, rfl, q, l, r⟩
theorem RepB.scr {ns : List Int} (s : Same G H) (h : RepB K H G v (.scr ns)) : ∃ a, v = .ref a ∧ SqL K H a (ns.map V.int) := by
  rcases h with h | ⟨p, e, h⟩
  · cases h with | scr q => exact ⟨_, rfl, same_sqL s q⟩
  · cases h
theorem RepB.dctK {ds : List (D × D)} (s : Same G H) (h : RepB K H G v (.dct false ds)) : ∃ a kvs, v = .ref a ∧ Rd H a (.dK kvs) ∧ RepK K G kvs ds := by
  rcases h with h | ⟨p, e, h⟩
  · cases h with
    | dk q l k r => exact ⟨_, _, rfl, .inr ⟨_, s _ _ q⟩, l, fun i p q e1 e2 => ⟨k i p q e1 e2, r i p q e1 e2⟩⟩
  · cases h with
    | dk q r => exact ⟨p, _, e, .inl q, r⟩
theorem RepB.dctT {ds : List (D × D)} (s : Same G H) (h : RepB K H G v (.dct true ds)) : ∃ a kvs, v = .ref a ∧ Rd H a (.dT kvs) ∧ RepT K G kvs ds := by
  rcases h with h | ⟨p, e, h⟩
  · cases h with
    | dt q l k r => exact ⟨_, _, rfl, .inr ⟨_, s _ _ q⟩, l, fun i p q e1 e2 => ⟨k i p q e1 e2, r i p q e1 e2⟩⟩
  · cases h with
    | dt q r => exact ⟨p, _, e, .inl q, r⟩
/-! rows -/
theorem Reps.nil : Reps K G [] [] := ⟨rfl, fun i v x a _ => by simp at a⟩
theorem Reps.cons {x : D} {vs : List V} {xs : List D} (h : Rep K G v x) (r : Reps K G vs xs) : Reps K G (v :: vs) (x :: xs) := by
  refine ⟨by simp [r.1], fun i w y a b => ?_⟩
  cases i with
  | zero => simp at a b; subst a b; exact h
  | succ i => exact r.2 i w y (by simpa using a) (by simpa using b)
theorem Reps.nilOf {vs : List V} (r : Reps K G vs []) : vs = [] := List.length_eq_zero_iff.mp r.1
theorem Reps.consOf {x : D} {vs : List V} {xs : List D} (r : Reps K G vs (x :: xs)) : ∃ v ws, vs = v :: ws ∧ Rep K G v x ∧ Reps K G ws xs := by
  cases vs with
  | nil => exact absurd r.1 (by simp)
  | cons v ws => exact ⟨v, ws, rfl, r.2 0 v x rfl rfl, by simpa using r.1, fun i w y a b => r.2 (i + 1) w y (by simpa using a) (by simpa using b)⟩
theorem Reps.append {vs ws : List V} {xs ys : List D} (r : Reps K G vs xs) (q : Reps K G ws ys) : Reps K G (vs ++ ws) (xs ++ ys) := by
  refine ⟨by simp [r.1, q.1], fun i w y a b => ?_⟩
  by_cases h : i < vs.length
  · rw [List.getElem?_append_left h] at a
    rw [List.getElem?_append_left (by rw [← r.1]; exact h)] at b
    exact r.2 i w y a b
  · rw [List.getElem?_append_right (by omega)] at a
    rw [List.getElem?_append_right (by rw [← r.1]; omega), ← r.1] at b
    exact q.2 _ w y a b
theorem Reps.drop {vs : List V} {xs : List D} (n : Nat) (r : Reps K G vs xs) : Reps K G (vs.drop n) (xs.drop n) :=
  ⟨by simp [r.1], fun i w y a b => r.2 (n + i) w y (by rw [List.getElem?_drop] at a; exact a) (by rw [List.getElem?_drop] at b; exact b)⟩
theorem Reps.take {vs : List V} {xs : List D} (n : Nat) (r : Reps K G vs xs) : Reps K G (vs.take n) (xs.take n) := by
  refine ⟨by simp [r.1], fun i w y a b => ?_⟩
  rw [List.getElem?_take] at a b
  split at a
  · rename_i h
    rw [if_pos h] at b
    exact r.2 i w y a b
  · cases a
theorem Reps.get {vs : List V} {xs : List D} {i : Nat} {x : D} (r : Reps K G vs xs) (h : xs[i]? = some x) : ∃ v, vs[i]? = some v ∧ Rep K G v x := by
  obtain ⟨hi, _⟩ := List.getElem?_eq_some_iff.mp h
  have hv : i < vs.length := by rw [r.1]; exact hi
  exact ⟨vs[i], List.getElem?_eq_getElem hv, r.2 i _ x (List.getElem?_eq_getElem hv) h⟩
theorem Reps.set {vs : List V} {xs : List D} {x : D} (j : Nat) (r : Reps K G vs xs) (h : Rep K G v x) : Reps K G (vs.set j v) (xs.set j x) := by
  refine ⟨by simp [r.1], fun i w y a b => ?_⟩
  by_cases e : j = i
  · subst e
    by_cases hj : j < vs.length
    · rw [List.getElem?_set_self hj] at a
      rw [List.getElem?_set_self (by rw [← r.1]; exact hj)] at b
      cases a; cases b; exact h
    · rw [List.getElem?_eq_none (by simpa using hj)] at a; cases a
  · rw [List.getElem?_set_ne e] at a b
    exact r.2 i w y a b
theorem Reps.reverse {vs : List V} {xs : List D} (r : Reps K G vs xs) : Reps K G vs.reverse xs.reverse := by
  refine ⟨by simp [r.1], fun i w y a b => ?_⟩
  have hi : i < vs.length := by
    have := (List.getElem?_eq_some_iff.mp a).1
    simpa using this
  rw [List.getElem?_reverse hi] at a
  rw [List.getElem?_reverse (by rw [← r.1]; exact hi), ← r.1] at b
  exact r.2 _ w y a b
theorem Reps.repl {vs : List V} {xs : List D} (r : Reps K G vs xs) : ∀ k : Nat, Reps K G (List.replicate k vs).flatten (List.replicate k xs).flatten
  | 0 => .nil
  | k + 1 => by
    rw [List.replicate_succ, List.replicate_succ, List.flatten_cons, List.flatten_cons]
    exact r.append (Reps.repl r k)
end

/-! ### environments -/
def SlotOk (K : PySem.W.Frag) (H G : Hp) : Slot → Option (Option V) → Prop
  | .dead, _ => True
  | .pl d, o => ∃ v, o = some (some v) ∧ Rep K G v d
  | .own d, o => ∃ p, o = some (some (.ref p)) ∧ G p = none ∧ Cell K H G p d
def isOwn : Option Slot → Bool
  | some (.own _) => true
  | _ => false
structure EnvOk (K : PySem.W.Frag) (ρ : SR.Env) (σ : Sg) (H G : Hp) : Prop where
  gh : Same G H
  len : ρ.length = σ.length
  sl : ∀ (i : Nat) (s : Slot), ρ[i]? = some s → SlotOk K H G s σ[i]?
  ap : ∀ (i j : Nat) (p : Addr), i ≠ j → isOwn ρ[i]? = true → isOwn ρ[j]? = true → σ[i]? = some (some (.ref p)) → σ[j]? ≠ some (some (.ref p))
section
variable {K : PySem.W.Frag} {H H' G G' : Hp} {v : V} {d : D} {ρ : SR.Env} {σ : Sg}
theorem Cell.there {p : Addr} (h : Cell K H G p d) : Mv (H p) := by
  cases h with
  | lst a _ => rw [a]; trivial
  | dk a _ => rw [a]; trivial
  | dt a _ => rw [a]; trivial
theorem EnvOk.ext (e : EnvOk K ρ σ H G) (x : Ext H G H' G') : EnvOk K ρ σ H' G' := by
  refine ⟨x.gh, e.len, fun i s h => ?_, e.ap⟩
  have q := e.sl i s h
  cases s with
  | dead => trivial
  | pl d =>
    obtain ⟨v, a, r⟩ := q
    exact ⟨v, a, r.same x.gg⟩
  | own d =>
    obtain ⟨p, a, g, c⟩ := q
    exact ⟨p, a, x.out p c.there g, c.same x.hh x.gg⟩
end

/-! ### readings -/
/-- where the program's own exceptions stand -/
abbrev EA := Exc → Addr
/-- the modes of what is told: of the ground, looked at, just made -/
abbrev Mode := Hp → Hp → Hp → V → D → Prop
def mG (K : PySem.W.Frag) : Mode := fun _ _ G v d => Rep K G v d
def mB (K : PySem.W.Frag) : Mode := fun _ H G v d => RepB K H G v d
def mF (K : PySem.W.Frag) : Mode := fun H0 H G v d => RepF K H0 H G v d
def rdX (ea : EA) (W : WX) (m : Mode) (r : Res D) (σ : Sg) (H G : Hp) (Q : VK) : Prop := match r with
  | .ok d => ∀ v H' G', Ext H G H' G' → m H H' G' v d → Q v H'
  | .rs c => ∀ H' G', Ext H G H' G' → W (.ref (ea c)) none σ H'
  | .bad => False
def rd (K : PySem.W.Frag) (ea : EA) (W : WX) (m : Mode) (f : EX) : TE := fun σ H Q => ∃ ρ G, EnvOk K ρ σ H G ∧ rdX ea W m (f ρ) σ H G Q
def rdTX (ea : EA) (W : WX) (r : Res Bool) (σ : Sg) (H G : Hp) (Q : Bool → Hp → Prop) : Prop := match r with
  | .ok b => ∀ H' G', Ext H G H' G' → Q b H'
  | .rs c => ∀ H' G', Ext H G H' G' → W (.ref (ea c)) none σ H'
  | .bad => False
def rdT (K : PySem.W.Frag) (ea : EA) (W : WX) (f : TX) : TT := fun σ H Q => ∃ ρ G, EnvOk K ρ σ H G ∧ rdTX ea W (f ρ) σ H G Q
def rdAX (K : PySem.W.Frag) (ea : EA) (W : WX) (r : Res (List D)) (σ : Sg) (H G : Hp) (Q : List V → Hp → Prop) : Prop := match r with
  | .ok ds => ∀ vs H' G', Ext H G H' G' → Reps K G' vs ds → Q vs H'
  | .rs c => ∀ H' G', Ext H G H' G' → W (.ref (ea c)) none σ H'
  | .bad => False
def rdA (K : PySem.W.Frag) (ea : EA) (W : WX) (f : AX) : TA := fun σ H Q => ∃ ρ G, EnvOk K ρ σ H G ∧ rdAX K ea W (f ρ) σ H G Q

/-- a piece of syntax tells what f tells -/
def EG (X : Cx) (ea : EA) (W : WX) (e : Expr) (f : EX) : Prop := PE X e (rd X.K ea W (mG X.K) f)
def EB (X : Cx) (ea : EA) (W : WX) (e : Expr) (f : EX) : Prop := PE X e (rd X.K ea W (mB X.K) f)
def EF (X : Cx) (ea : EA) (W : WX) (e : Expr) (f : EX) : Prop := PE X e (rd X.K ea W (mF X.K) f)
def ET (X : Cx) (ea : EA) (W : WX) (e : Expr) (f : TX) : Prop := PT X e (rdT X.K ea W f)
def EA' (X : Cx) (ea : EA) (W : WX) (es : List Expr) (f : AX) : Prop := PA X es (rdA X.K ea W f)

theorem PE.imp {X : Cx} {e : Expr} {t t' : TE} (h : PE X e t) (k : ∀ σ H Q, t' σ H Q → t σ H Q) : PE X e t' := ⟨fun pins s σ H Q I q => h.run pins s σ H Q I (k σ H Q q)⟩
theorem PT.imp {X : Cx} {e : Expr} {t t' : TT} (h : PT X e t) (k : ∀ σ H Q, t' σ H Q → t σ H Q) : PT X e t' := ⟨fun pins s σ H Q I q => h.run pins s σ H Q I (k σ H Q q)⟩
theorem PA.imp {X : Cx} {e : List Expr} {t t' : TA} (h : PA X e t) (k : ∀ σ H Q, t' σ H Q → t σ H Q) : PA X e t' := ⟨fun pos pins s σ H Q I q => h.run pos pins s σ H Q I (k σ H Q q)⟩

section
variable {X : Cx} {ea : EA} {W : WX} {e a b : Expr} {es : List Expr} {f g : EX} {pos : Pos}
/-- what e gives may be locked for good -/
theorem pe_frz {t : TE} (h : PE X e t) : PE X e (fun σ H Q => t σ H fun x H1 => Q x H1 ∨ ∃ p u, x = .ref p ∧ H1 p = some u ∧ Mut (some u) ∧ ∀ od, Q x (upd H1 p (.frz od u))) := ⟨fun pins s σ H Q I hw =>
  thn (h.run pins s σ H _ I hw) fun v s1 ⟨x, H1, I1, r, q⟩ => by
    rcases q with q | ⟨p, u, rfl, hp, mu, q⟩
    · exact ⟨x, H1, I1, r, q⟩
    · obtain ⟨od, I2⟩ := I1.lock hp mu
      exact ⟨_, _, I2, r, q od⟩⟩
theorem EF.toG (h : EF X ea W e f) : EG X ea W e f := PE.imp (pe_frz h) fun σ H Q ⟨ρ, G, ok, q⟩ => ⟨ρ, G, ok, by
  unfold rdX at q ⊢
  cases r : f ρ with
  | ok d =>
    rw [r] at q
    intro v H' G' x m
    rcases RepF.toGz x m with ⟨G2, x2, m2⟩ | ⟨p, u, rfl, hp, mu, _, k⟩
    · exact .inl (q v H' G2 x2 m2)
    · exact .inr ⟨p, u, rfl, hp, mu, fun od => by
        obtain ⟨G2, x2, m2⟩ := k od
        exact q _ _ G2 x2 m2⟩
  | rs c => rw [r] at q; exact q
  | bad => rw [r] at q; exact q⟩
theorem EG.toB (h : EG X ea W e f) : EB X ea W e f := PE.imp h fun σ H Q ⟨ρ, G, ok, q⟩ => ⟨ρ, G, ok, by
  unfold rdX at q ⊢
  cases r : f ρ with
  | ok d => rw [r] at q; exact fun v H' G' x m => q v H' G' x (.inl m)
  | rs c => rw [r] at q; exact q
  | bad => rw [r] at q; exact q⟩
theorem EF.toB (h : EF X ea W e f) : EB X ea W e f := h.toG.toB
theorem rdX.ext {m : Mode} {r : Res D} {σ : Sg} {H G H1 G1 : Hp} {Q : VK} (mono : ∀ H' G' v d, m H1 H' G' v d → m H H' G' v d) (x : Ext H G H1 G1) (q : rdX ea W m r σ H G Q) : rdX ea W m r σ H1 G1 Q := by
  cases r with
  | ok d => exact fun v H' G' x' k => q v H' G' (x.trans x') (mono _ _ _ _ k)
  | rs c => exact fun H' G' x' => q H' G' (x.trans x')
  | bad => exact q
theorem mF.mono {K : PySem.W.Frag} {H H1 : Hp} (s : Same H H1) : ∀ H' G' v d, mF K H1 H' G' v d → mF K H H' G' v d := fun H' G' v d h => by
  rcases h with h | ⟨p, e, h0, r⟩
  · exact .inl h
  · exact .inr ⟨p, e, same_none s h0, r⟩
theorem rdX.extF {r : Res D} {σ : Sg} {H G H1 G1 : Hp} {Q : VK} (x : Ext H G H1 G1) (q : rdX ea W (mF X.K) r σ H G Q) : rdX ea W (mF X.K) r σ H1 G1 Q := q.ext (mF.mono x.hh) x
theorem rdX.extG {r : Res D} {σ : Sg} {H G H1 G1 : Hp} {Q : VK} (x : Ext H G H1 G1) (q : rdX ea W (mG X.K) r σ H G Q) : rdX ea W (mG X.K) r σ H1 G1 Q := q.ext (m := mG X.K) (H := H) (fun _ _ _ _ h => h) x
theorem rdTX.ext {r : Res Bool} {σ : Sg} {H G H1 G1 : Hp} {Q : Bool → Hp → Prop} (x : Ext H G H1 G1) (q : rdTX ea W r σ H G Q) : rdTX ea W r σ H1 G1 Q := by
  cases r with
  | ok d => exact fun H' G' x' => q H' G' (x.trans x')
  | rs c => exact fun H' G' x' => q H' G' (x.trans x')
  | bad => exact q
/-- first a, then what hangs on it -/
theorem rdX.bind {m m' : Mode} {r : Res D} {k : D → Res D} {σ : Sg} {H G : Hp} {Q R : VK} (q : rdX ea W m' (r.bind k) σ H G Q)
    (h : ∀ d v H1 G1, Ext H G H1 G1 → m H H1 G1 v d → rdX ea W m' (k d) σ H G Q → R v H1) : rdX ea W m r σ H G R := by
  cases r with
  | ok d => exact fun v H' G' x k' => h d v H' G' x k' q
  | rs c => exact q
  | bad => exact q
theorem rdX.bindT {m : Mode} {r : Res D} {k : D → Res Bool} {σ : Sg} {H G : Hp} {Q : Bool → Hp → Prop} {R : VK} (q : rdTX ea W (r.bind k) σ H G Q)
    (h : ∀ d v H1 G1, Ext H G H1 G1 → m H H1 G1 v d → rdTX ea W (k d) σ H G Q → R v H1) : rdX ea W m r σ H G R := by
  cases r with
  | ok d => exact fun v H' G' x k' => h d v H' G' x k' q
  | rs c => exact q
  | bad => exact q
theorem rdTX.bind {m' : Mode} {r : Res Bool} {k : Bool → Res D} {σ : Sg} {H G : Hp} {Q : VK} {R : Bool → Hp → Prop} (q : rdX ea W m' (r.bind k) σ H G Q)
    (h : ∀ d H1 G1, Ext H G H1 G1 → rdX ea W m' (k d) σ H G Q → R d H1) : rdTX ea W r σ H G R := by
  cases r with
  | ok d => exact fun H' G' x => h d H' G' x q
  | rs c => exact q
  | bad => exact q
theorem rdTX.bindT {r : Res Bool} {k : Bool → Res Bool} {σ : Sg} {H G : Hp} {Q R : Bool → Hp → Prop} (q : rdTX ea W (r.bind k) σ H G Q)
    (h : ∀ d H1 G1, Ext H G H1 G1 → rdTX ea W (k d) σ H G Q → R d H1) : rdTX ea W r σ H G R := by
  cases r with
  | ok d => exact fun H' G' x => h d H' G' x q
  | rs c => exact q
  | bad => exact q

/-! ### names and constants -/
theorem eg_var {i : Nat} {x : Str} (hN : X.N[i]? = some x) (hv : Vis X.env.scope x) (hd : (x == ("__debug__" : Str)) = false := by decide) (hcd : (x == ("__classdict__" : Str)) = false := by decide) : EG X ea W (.Name x pos) (var i) :=
  PE.imp (pe_var hN hv hd hcd) fun σ H Q ⟨ρ, G, ok, q⟩ => by
    unfold rdX var at q
    cases r : ρ[i]? with
    | none => rw [r] at q; exact q.elim
    | some s =>
      rw [r] at q
      cases s with
      | dead => exact q.elim
      | own d => exact q.elim
      | pl d =>
        obtain ⟨v, hs, rv⟩ := ok.sl i _ r
        exact ⟨v, hs, q v H G (.refl ok.gh) rv⟩
theorem eb_var {i : Nat} {x : Str} (hN : X.N[i]? = some x) (hv : Vis X.env.scope x) (hd : (x == ("__debug__" : Str)) = false := by decide) (hcd : (x == ("__classdict__" : Str)) = false := by decide) : EB X ea W (.Name x pos) (varB i) :=
  PE.imp (pe_var hN hv hd hcd) fun σ H Q ⟨ρ, G, ok, q⟩ => by
    unfold rdX varB at q
    cases r : ρ[i]? with
    | none => rw [r] at q; exact q.elim
    | some s =>
      rw [r] at q
      cases s with
      | dead => exact q.elim
      | own d =>
        obtain ⟨p, hs, g, c⟩ := ok.sl i _ r
        exact ⟨_, hs, q _ H G (.refl ok.gh) (.inr ⟨p, rfl, c⟩)⟩
      | pl d =>
        obtain ⟨v, hs, rv⟩ := ok.sl i _ r
        exact ⟨v, hs, q v H G (.refl ok.gh) (.inl rv)⟩
theorem ef_con {v : V} {d : D} (h : PE X e (tC v)) (r : ∀ G, Rep X.K G v d) (m : d.mut = false) : EF X ea W e (con d) := PE.imp h fun σ H Q ⟨ρ, G, ok, q⟩ => q v H G (.refl ok.gh) (.inl ⟨r G, m⟩)
theorem ef_int {i : Int} {j : Nat} : EF X ea W (.Constant (.int i) j pos) (con (.int i)) := ef_con pe_int (fun _ => .int i) rfl
theorem ef_bl {i : Bool} {j : Nat} : EF X ea W (.Constant (.bool i) j pos) (con (.bl i)) := ef_con pe_bl (fun _ => .bl i) rfl
theorem ef_non {j : Nat} : EF X ea W (.Constant .none j pos) (con .non) := ef_con pe_non (fun _ => .non) rfl
theorem ef_str {z : Str} {x : Txt} {j : Nat} (h : tl z = x) : EF X ea W (.Constant (.str z) j pos) (con (.str x)) := ef_con pe_str (fun _ => h ▸ Rep.str z) rfl
/-- a module's constant -/
theorem ef_gint {x : Str} {i : Int} {t : Tok} (hg : Gl X x) (hm : X.mg x = some (.int i t)) (hd : (x == ("__debug__" : Str)) = false := by decide) : EF X ea W (.Name x pos) (con (.int i)) := ef_con (pe_glob (v := V.int i) hg hm ⟨_, rfl⟩ hd) (fun _ => .int i) rfl
theorem ef_gstr {x : Str} {z : Str} {y : Txt} {t : Tok} (hg : Gl X x) (hm : X.mg x = some (.str z t)) (h : tl z = y) (hd : (x == ("__debug__" : Str)) = false := by decide) : EF X ea W (.Name x pos) (con (.str y)) := ef_con (pe_glob (v := V.str z) hg hm ⟨_, rfl⟩ hd) (fun _ => h ▸ Rep.str z) rfl

/-! ### operators by values -/
/-- f tells op -/
def OpD (X : Cx) (f : Value → Value → Sem Value) (op : D → D → Res D) : Prop :=
  (∀ d e c, op d e ≠ .rs c) ∧ ∃ r, OpR X f r ∧ ∀ (H G : Hp) (x y : V) (d e z : D) (Q : VK), Same G H → RepB X.K H G x d → RepB X.K H G y e → op d e = .ok z → (∀ v H' G', Ext H G H' G' → RepF X.K H H' G' v z → Q v H') → r x y H Q
theorem rd_bin {op : D → D → Res D} {r : R2} (ho : ∀ (H G : Hp) (x y : V) (d e z : D) (Q : VK), Same G H → RepB X.K H G x d → RepB X.K H G y e → op d e = .ok z → (∀ v H' G', Ext H G H' G' → RepF X.K H H' G' v z → Q v H') → r x y H Q) (nr : ∀ d e c, op d e ≠ .rs c)
    {σ : Sg} {H : Hp} {Q : VK} (h : rd X.K ea W (mF X.K) (SR.bin op f g) σ H Q) : tOp r (rd X.K ea W (mB X.K) f) (rd X.K ea W (mB X.K) g) σ H Q := by
  obtain ⟨ρ, G, ok, q⟩ := h
  refine ⟨ρ, G, ok, q.bind fun d v H1 G1 x1 m1 q1 => ⟨ρ, G1, ok.ext x1, (q1.extF x1).bind fun e' u H2 G2 x2 m2 q2 => ?_⟩⟩
  have q3 := q2.extF x2
  cases r' : op d e' with
  | ok z => rw [r'] at q3; exact ho H2 G2 v u d e' z Q x2.gh (m1.ext x2) m2 r' q3
  | rs c => exact absurd r' (nr _ _ _)
  | bad => rw [r'] at q3; exact q3.elim
theorem ef_bin {o : Operator} {op : D → D → Res D} (ho : OpD X (binaryOp o) op) (ha : EB X ea W a f) (hb : EB X ea W b g) : EF X ea W (.BinOp a o b pos) (SR.bin op f g) := by
  obtain ⟨nr, r, h1, h2⟩ := ho
  exact PE.imp (pe_op h1 ha hb) fun σ H Q h => rd_bin h2 nr h
theorem ef_cmp {o : CmpOp} {op : D → D → Res D} (ho : OpD X (compareOp o) op) (ha : EB X ea W a f) (hb : EB X ea W b g) (hm : behindInMarks o b = false := by rfl) : EF X ea W (.Compare a [o] [b] pos) (SR.bin op f g) := by
  obtain ⟨nr, r, h1, h2⟩ := ho
  exact PE.imp (pe_cmpR h1 ha hb hm) fun σ H Q h => rd_bin h2 nr h
/-- telling a value with no list about it -/
theorem told {H G : Hp} {Q : VK} {z : D} (s : Same G H) (q : ∀ v H' G', Ext H G H' G' → RepF X.K H H' G' v z → Q v H') {v : V} (r : Rep X.K G v z) (m : z.mut = false) : Q v H := q v H G (.refl s) (.inl ⟨r, m⟩)
end
end SR

set_option linter.all false
set_option autoImplicit false
set_option Elab.async false
set_option maxRecDepth 100000
set_option maxHeartbeats 1000000
/-! SRc: the operators on plain data. -/
namespace SR
open PySem PySem.Spec PyProof.Rows L2 TL
section
variable {K : PySem.W.Frag} {H G : Hp} {Q : VK}
theorem line_eq : line = sizeLine := by rw [sizeLine_eq]; rfl
theorem new_tup {vs : List V} {xs : List D} (s : Same G H) (r : Reps K G vs xs) (q : ∀ v H' G', Ext H G H' G' → RepF K H H' G' v (.tup xs) → Q v H') : NewT H vs Q := fun p o hp hd =>
  q _ _ _ (Ext.new s hp) (.inl ⟨.tupI upd_same hd (r.same (same_updN (same_none s hp))), rfl⟩)
theorem new_lst {vs : List V} {xs : List D} (s : Same G H) (r : Reps K G vs xs) (q : ∀ v H' G', Ext H G H' G' → RepF K H H' G' v (.lst xs) → Q v H') : ∀ p, H p = none → Q (.ref p) (upd H p (.lst vs)) := fun p hp =>
  q _ _ G (Ext.newO s hp) (.inr ⟨p, rfl, hp, same_none s hp, .lst upd_same r⟩)
theorem res_inj {α : Type} {a b : α} (h : Res.ok a = Res.ok b) : a = b := by cases h; rfl
end
section
variable {X : Cx}
theorem opd_add : OpD X (binaryOp .Add) dAdd := by
  refine ⟨fun d e c h => ?_, _, op_add.or (op_add_str.or (op_catF.or op_cat)), fun H G x y d e z Q s rx ry h q => ?_⟩
  · unfold dAdd at h; split at h <;> (try split at h) <;> cases h
  · unfold dAdd at h
    split at h
    · cases h
      have e1 := rx.int; have e2 := ry.int
      subst e1; subst e2
      exact .inl ⟨_, _, rfl, rfl, told s q (.int _) rfl⟩
    · split at h
      · rename_i hl
        cases h
        obtain ⟨a, rfl, rfl⟩ := rx.str
        obtain ⟨b, rfl, rfl⟩ := ry.str
        refine .inr (.inl ⟨a, b, rfl, rfl, ?_, told s q (by rw [← tl_append]; exact .str _) rfl⟩)
        rw [len_tl, len_tl, ← line_eq]; exact hl
      · cases h
    · split at h
      · rename_i hl
        cases h
        obtain ⟨a, vs, e1, sa, ra⟩ := rx.tup
        obtain ⟨b, ws, e2, sb, rb⟩ := ry.tup
        subst e1; subst e2
        refine .inr (.inr (.inl ⟨a, b, vs, ws, rfl, rfl, same_sqT s sa, same_sqT s sb, by rw [ra.1, rb.1, ← line_eq]; exact hl, fun e => ?_, fun _ e => ?_, fun _ _ => new_tup s (ra.append rb) q⟩))
        · subst e
          have := ra.1
          have e2 := List.length_eq_zero_iff.mp this.symm
          subst e2
          exact told s q (ry.rep rfl) rfl
        · subst e
          have := rb.1
          have e2 := List.length_eq_zero_iff.mp this.symm
          subst e2
          rw [List.append_nil] at q
          exact told s q (rx.rep rfl) rfl
      · cases h
    · split at h
      · rename_i hl
        cases h
        obtain ⟨a, vs, rfl, sa, ra⟩ := rx.lst s
        obtain ⟨b, ws, rfl, sb, rb⟩ := ry.lst s
        exact .inr (.inr (.inr ⟨a, b, vs, ws, rfl, rfl, sa, sb, by rw [ra.1, rb.1, ← line_eq]; exact hl, new_lst s (ra.append rb) q⟩))
      · cases h
    · cases h
theorem opd_sub : OpD X (binaryOp .Sub) dSub := by
  refine ⟨fun d e c h => ?_, _, op_sub, fun H G x y d e z Q s rx ry h q => ?_⟩
  · unfold dSub at h; split at h <;> cases h
  · unfold dSub at h
    split at h
    · cases h
      have e1 := rx.int; have e2 := ry.int
      subst e1; subst e2
      exact ⟨_, _, rfl, rfl, told s q (.int _) rfl⟩
    · cases h
theorem opd_div : OpD X (binaryOp .FloorDiv) dDiv := by
  refine ⟨fun d e c h => ?_, _, op_fdiv, fun H G x y d e z Q s rx ry h q => ?_⟩
  · unfold dDiv at h; split at h <;> (try split at h) <;> cases h
  · unfold dDiv at h
    split at h
    · split at h
      · rename_i hc
        cases h
        have e1 := rx.int; have e2 := ry.int
        subst e1; subst e2
        simp only [Bool.and_eq_true, decide_eq_true_eq] at hc
        exact ⟨_, _, rfl, rfl, hc, told s q (.int _) rfl⟩
      · cases h
    · cases h
theorem opd_mod : OpD X (binaryOp .Mod) dMod := by
  refine ⟨fun d e c h => ?_, _, op_mod, fun H G x y d e z Q s rx ry h q => ?_⟩
  · unfold dMod at h; split at h <;> (try split at h) <;> cases h
  · unfold dMod at h
    split at h
    · split at h
      · rename_i hc
        cases h
        have e1 := rx.int; have e2 := ry.int
        subst e1; subst e2
        exact ⟨_, _, rfl, rfl, of_decide_eq_true hc, told s q (.int _) rfl⟩
      · cases h
    · cases h
theorem opd_pow : OpD X (binaryOp .Pow) dPow := by
  refine ⟨fun d e c h => ?_, _, op_pow, fun H G x y d e z Q s rx ry h q => ?_⟩
  · unfold dPow at h; split at h <;> (try split at h) <;> cases h
  · unfold dPow at h
    split at h
    · split at h
      · rename_i hc
        cases h
        have e1 := rx.int; have e2 := ry.int
        subst e1; subst e2
        simp only [Bool.and_eq_true, decide_eq_true_eq] at hc
        exact ⟨_, _, rfl, rfl, ⟨hc.1.1, hc.1.2, hc.2⟩, told s q (.int _) rfl⟩
      · cases h
    · cases h
/-- a text times an int -/
def rRepS : R2 := fun x y H Q => ∃ z k, x = .str z ∧ y = .int k ∧ k < 1000 ∧ -1000 < k ∧ z.length * k.toNat ≤ sizeLine ∧ Q (.str ⟨(rep (tl z) k).toArray⟩) H
theorem rep_arr (x : Array Nat) (k : Nat) : (List.replicate k x).foldl (· ++ ·) #[] = (List.replicate k x.toList).flatten.toArray := by
  have go : ∀ (k : Nat) (acc : List Nat), (List.replicate k x).foldl (· ++ ·) acc.toArray = (acc ++ (List.replicate k x.toList).flatten).toArray := by
    intro k
    induction k with
    | zero => intro acc; simp
    | succ k ih =>
      intro acc
      rw [List.replicate_succ, List.foldl_cons, List.replicate_succ, List.flatten_cons]
      have e : acc.toArray ++ x = (acc ++ x.toList).toArray := by simp
      rw [e, ih, List.append_assoc]
  have := go k []
  simpa using this
theorem op_repS : OpR X (binaryOp .Mult) rRepS := by
  intro pins s σ H x y v u Q I rx ry h
  obtain ⟨z, k, rfl, rfl, h1, h2, hz, q⟩ := h
  obtain ⟨t, rfl⟩ := rx
  obtain ⟨t', rfl⟩ := ry
  have ln : sizeLine = 16777216 := sizeLine_eq
  have zl : z.length ≤ sizeLine ∨ k < 1 := by
    by_cases hk : k < 1
    · exact .inr hk
    · refine .inl (Nat.le_trans ?_ hz)
      have : 1 ≤ k.toNat := by omega
      exact Nat.le_mul_of_pos_right _ this
  refine PySem.P.mul_str ?_ (fun hn _ => ?_) (fun hn _ => ?_) ?_
  · rw [decide_eq_false (by omega), decide_eq_false (by omega)]; rfl
  · have hz' : z.length ≤ sizeLine := zl.resolve_right hn
    have : (16777216 : Int) ≤ (2 ^ 63 - 1) / k := by
      have hk : 0 < k := by omega
      rw [Int.le_ediv_iff_mul_le hk]
      omega
    omega
  · unfold Builtin.Str.tooLong
    exact decide_eq_false (by omega)
  · have fin : ∀ (z' : Str) (tk : Tok) (n : Nat), z' = ⟨(rep (tl z) k).toArray⟩ → EP X pins σ Q (.str z' tk) { s with toks := n } := fun z' tk n e => ⟨.str z', H, I.tok _, ⟨_, rfl⟩, by rw [e]; exact q⟩
    have e0 : tl z = z.cps.toList := rfl
    by_cases hk : k < 1
    · rw [if_pos hk]
      refine ⟨by decide, fin _ _ _ ?_⟩
      have : k.toNat = 0 := by omega
      apply ext_tl
      show _ = rep (tl z) k
      unfold rep
      rw [this]
      rfl
    · rw [if_neg hk]
      by_cases hk2 : (k == 1 || z.length == 0) = true
      · rw [if_pos hk2]
        show EP X pins σ Q (.str z t) s
        refine ⟨.str z, H, I, ⟨_, rfl⟩, ?_⟩
        have : z = ⟨(rep (tl z) k).toArray⟩ := by
          apply ext_tl
          show tl z = rep (tl z) k
          unfold rep
          rw [Bool.or_eq_true, beq_iff_eq, beq_iff_eq] at hk2
          rcases hk2 with e | e
          · subst e
            have : (1 : Int).toNat = 1 := rfl
            rw [this]; simp
          · rw [len_tl] at e
            have e' := List.length_eq_zero_iff.mp e
            rw [e']; simp
        rw [← this] at q
        exact q
      · rw [if_neg hk2]
        refine ⟨?_, fin _ _ _ ?_⟩
        · show Array.size _ ≤ sizeLine
          rw [rep_arr, List.size_toArray, PyProof.Rows.lm_len_rep_flat, Nat.mul_comm]
          rw [len_tl] at hz
          exact hz
        · rw [rep_arr]; rfl
theorem opd_mul : OpD X (binaryOp .Mult) dMul := by
  refine ⟨fun d e c h => ?_, _, op_mul.or (op_repS.or (op_repF.or op_rep)), fun H G x y d e z Q s rx ry h q => ?_⟩
  · unfold dMul at h; split at h <;> (try split at h) <;> cases h
  · unfold dMul at h
    split at h
    · split at h
      · rename_i hc
        cases h
        have e1 := rx.int; have e2 := ry.int
        subst e1; subst e2
        refine .inl ⟨_, _, rfl, rfl, ?_, told s q (.int _) rfl⟩
        rw [Bool.or_eq_true] at hc
        unfold small64 at hc
        simp only [decide_eq_true_eq] at hc
        exact hc.imp (fun q => by omega) (fun q => by omega)
      · cases h
    · split at h
      · rename_i hc
        cases h
        obtain ⟨a, rfl, rfl⟩ := rx.str
        have e2 := ry.int
        subst e2
        simp only [Bool.and_eq_true, decide_eq_true_eq] at hc
        exact .inr (.inl ⟨a, _, rfl, rfl, hc.1.2, hc.2, by rw [len_tl, ← line_eq]; exact hc.1.1, told s q (.str _) rfl⟩)
      · cases h
    · split at h
      · rename_i hc
        cases h
        obtain ⟨a, vs, rfl, sa, ra⟩ := rx.tup
        have e2 := ry.int
        subst e2
        simp only [Bool.and_eq_true, decide_eq_true_eq, Bool.not_eq_true', List.isEmpty_eq_false_iff] at hc
        refine .inr (.inr (.inl ⟨a, _, vs, rfl, rfl, same_sqT s sa, fun e => hc.1.1.1 ?_, hc.1.1.2, hc.1.2, by rw [ra.1]; exact hc.2, new_tup s (ra.repl _) q⟩))
        subst e
        exact List.length_eq_zero_iff.mp ra.1.symm
      · cases h
    · split at h
      · rename_i hc
        cases h
        obtain ⟨a, vs, rfl, sa, ra⟩ := rx.lst s
        have e2 := ry.int
        subst e2
        simp only [Bool.and_eq_true, decide_eq_true_eq] at hc
        exact .inr (.inr (.inr ⟨a, _, vs, rfl, rfl, sa, by omega, by omega, by rw [ra.1, ← line_eq]; exact hc.1.1, new_lst s (ra.repl _) q⟩))
      · cases h
    · cases h
/-! comparisons -/
theorem opd_lt : OpD X (compareOp .Lt) dLt := by
  refine ⟨fun d e c h => ?_, _, op_lt.or op_lt_str, fun H G x y d e z Q s rx ry h q => ?_⟩
  · unfold dLt at h; split at h <;> cases h
  · unfold dLt at h
    split at h
    · cases h
      have e1 := rx.int; have e2 := ry.int
      subst e1; subst e2
      exact .inl ⟨_, _, rfl, rfl, told s q (.bl _) rfl⟩
    · cases h
      obtain ⟨a, rfl, rfl⟩ := rx.str
      obtain ⟨b, rfl, rfl⟩ := ry.str
      exact .inr ⟨a, b, rfl, rfl, told s q (.bl _) rfl⟩
    · cases h
theorem opd_int {o : CmpOp} {p : Int → Int → Bool} (h : OpR X (compareOp o) (rI0 fun i j => .bl (p i j))) : OpD X (compareOp o) (cmpI p) := by
  refine ⟨fun d e c h => ?_, _, h, fun H G x y d e z Q s rx ry h q => ?_⟩
  · unfold cmpI at h; split at h <;> cases h
  · unfold cmpI at h
    split at h
    · cases h
      have e1 := rx.int; have e2 := ry.int
      subst e1; subst e2
      exact ⟨_, _, rfl, rfl, told s q (.bl _) rfl⟩
    · cases h
theorem opd_le : OpD X (compareOp .LtE) dLe := opd_int op_le
theorem opd_gt : OpD X (compareOp .Gt) dGt := opd_int op_gt
theorem opd_ge : OpD X (compareOp .GtE) dGe := opd_int op_ge
theorem isN_rep {K : PySem.W.Frag} {H G : Hp} {x : V} {d : D} (r : RepB K H G x d) : decide (x = .non) = d.isN := by
  rcases r with r | ⟨p, e, c⟩
  · cases r <;> rfl
  · subst e; cases c <;> rfl
theorem dec_beq (a b : Bool) : decide (a = b) = (a == b) := by cases a <;> cases b <;> rfl
theorem opd_is : OpD X (compareOp .Is) dIs := by
  refine ⟨fun d e c h => ?_, _, op_isN.or op_isBl, fun H G x y d e z Q s rx ry h q => ?_⟩
  · unfold dIs at h; split at h <;> cases h
  · unfold dIs at h
    split at h
    · have e2 := ry.non
      subst e2
      cases h
      refine .inl ⟨rfl, ?_⟩
      rw [isN_rep rx]
      exact told s q (.bl _) rfl
    · have e1 := rx.bl; have e2 := ry.bl
      subst e1; subst e2
      cases h
      refine .inr ⟨_, _, rfl, rfl, ?_⟩
      rw [dec_beq]
      exact told s q (.bl _) rfl
    · cases h
theorem opd_isNot : OpD X (compareOp .IsNot) dIsNot := by
  refine ⟨fun d e c h => ?_, _, op_notN.or op_notBl, fun H G x y d e z Q s rx ry h q => ?_⟩
  · unfold dIsNot at h; split at h <;> cases h
  · unfold dIsNot at h
    split at h
    · have e2 := ry.non
      subst e2
      cases h
      refine .inl ⟨rfl, ?_⟩
      rw [isN_rep rx]
      exact told s q (.bl _) rfl
    · have e1 := rx.bl; have e2 := ry.bl
      subst e1; subst e2
      cases h
      refine .inr ⟨_, _, rfl, rfl, ?_⟩
      rw [dec_beq]
      exact told s q (.bl _) rfl
    · cases h
/-! == -/
theorem scal_rep {K : PySem.W.Frag} {H G : Hp} {x y : V} {d e : D} (rx : RepB K H G x d) (ry : RepB K H G y e) (h : scalD d e = true) : scal x y = true ∧ decide (x = y) = D.eq d e := by
  unfold scalD at h
  split at h
  all_goals first
    | (cases h; done)
    | skip
  all_goals (first | (have e1 := rx.non; subst e1) | (have e1 := rx.int; subst e1) | (have e1 := rx.bl; subst e1) | (obtain ⟨za, rfl, rfl⟩ := rx.str))
  all_goals (first | (have e2 := ry.non; subst e2) | (have e2 := ry.int; subst e2) | (have e2 := ry.bl; subst e2) | (obtain ⟨zb, rfl, rfl⟩ := ry.str))
  all_goals (refine ⟨rfl, ?_⟩; unfold D.eq)
  all_goals first
    | rfl
    | (simp; done)
    | (rw [dec_int])
    | (rw [dec_bl])
    | skip
  rw [Bool.eq_iff_iff, decide_eq_true_eq, beq_iff_eq]
  exact ⟨fun e => by cases e; rfl, fun e => by rw [ext_tl e]⟩
mutual
def toPy : D → PyData
  | .non => .none
  | .bl b => .bool b
  | .int i => .int i
  | .str x => .str ⟨x.toArray⟩
  | .tup xs => .tuple (toPys xs)
  | .lst xs => .list (toPys xs)
  | .dct _ _ => .none
  | .scr _ => .none
def toPys : List D → List PyData
  | [] => []
  | x :: xs => toPy x :: toPys xs
end
mutual
theorem toPy_lay : ∀ d : D, d.lay = true → (toPy d).canLay0 = true
  | .non, _ => rfl
  | .bl _, _ => rfl
  | .int _, _ => rfl
  | .str x, h => by
    unfold D.lay at h
    unfold toPy PyData.canLay0 PyData.strOk
    simp only [List.all_toArray, List.all_eq_true, decide_eq_true_eq] at h ⊢
    intro c hc
    have := h c hc
    unfold okC at this
    have := of_decide_eq_true this
    omega
  | .tup xs, h => by unfold D.lay at h; unfold toPy PyData.canLay0; exact toPys_lay xs h
  | .lst xs, h => by unfold D.lay at h; unfold toPy PyData.canLay0; exact toPys_lay xs h
  | .dct _ _, h => by unfold D.lay at h; cases h
  | .scr _, h => by unfold D.lay at h; cases h
theorem toPys_lay : ∀ xs : List D, D.lays xs = true → PyData.canLayAll0 (toPys xs) = true
  | [], _ => rfl
  | x :: xs, h => by
    unfold D.lays at h
    rw [Bool.and_eq_true] at h
    unfold toPys PyData.canLayAll0
    rw [toPy_lay x h.1, toPys_lay xs h.2]; rfl
end
mutual
theorem toPy_dep : ∀ d : D, (toPy d).depth ≤ d.dep
  | .non => Nat.zero_le _
  | .bl _ => Nat.zero_le _
  | .int _ => Nat.zero_le _
  | .str x => Nat.zero_le _
  | .tup xs => by unfold toPy PyData.depth D.dep; exact Nat.succ_le_succ (toPys_dep xs)
  | .lst xs => by unfold toPy PyData.depth D.dep; exact Nat.succ_le_succ (toPys_dep xs)
  | .dct _ _ => Nat.zero_le _
  | .scr _ => Nat.zero_le _
theorem toPys_dep : ∀ xs : List D, PyData.depthAll (toPys xs) ≤ D.deps xs
  | [] => Nat.zero_le _
  | x :: xs => by
    unfold toPys PyData.depthAll D.deps
    have h1 := toPy_dep x
    have h2 := toPys_dep xs
    omega
end
theorem toPy_shaped {d : D} (h : d.good = true) : SeqAt.shaped (toPy d) = true := by
  unfold D.good at h
  rw [Bool.and_eq_true, decide_eq_true_eq] at h
  unfold SeqAt.shaped
  rw [toPy_lay d h.1, Bool.true_and, decide_eq_true_eq]
  exact Nat.le_trans (toPy_dep d) h.2
mutual
theorem toPy_eqv : ∀ d e : D, d.lay = true → e.lay = true → PyData.eqv (toPy d) (toPy e) = D.eq d e
  | .dct _ _, _, h, _ => by unfold D.lay at h; cases h
  | .scr _, _, h, _ => by unfold D.lay at h; cases h
  | .non, e, _, h => by
    cases e with
    | dct _ _ => unfold D.lay at h; cases h
    | scr _ => unfold D.lay at h; cases h
    | _ => simp only [toPy, PyData.eqv, D.eq]
  | .bl b, e, _, h => by
    cases e with
    | dct _ _ => unfold D.lay at h; cases h
    | scr _ => unfold D.lay at h; cases h
    | _ => simp only [toPy, PyData.eqv, D.eq]
  | .int i, e, _, h => by
    cases e with
    | dct _ _ => unfold D.lay at h; cases h
    | scr _ => unfold D.lay at h; cases h
    | _ => simp only [toPy, PyData.eqv, D.eq]
  | .str x, e, _, h => by
    cases e with
    | dct _ _ => unfold D.lay at h; cases h
    | scr _ => unfold D.lay at h; cases h
    | str y =>
      simp only [toPy, PyData.eqv, D.eq]
      rw [Bool.eq_iff_iff, beq_iff_eq, beq_iff_eq]
      exact ⟨fun z => by injection z with z; simpa using z, fun z => by rw [z]⟩
    | _ => simp only [toPy, PyData.eqv, D.eq]
  | .tup xs, e, h0, h => by
    cases e with
    | dct _ _ => unfold D.lay at h; cases h
    | scr _ => unfold D.lay at h; cases h
    | tup ys =>
      unfold D.lay at h0 h
      simp only [toPy, PyData.eqv, D.eq]
      exact toPys_eqv xs ys h0 h
    | _ => simp only [toPy, PyData.eqv, D.eq]
  | .lst xs, e, h0, h => by
    cases e with
    | dct _ _ => unfold D.lay at h; cases h
    | scr _ => unfold D.lay at h; cases h
    | lst ys =>
      unfold D.lay at h0 h
      simp only [toPy, PyData.eqv, D.eq]
      exact toPys_eqv xs ys h0 h
    | _ => simp only [toPy, PyData.eqv, D.eq]
theorem toPys_eqv : ∀ xs ys : List D, D.lays xs = true → D.lays ys = true → PyData.eqvAll (toPys xs) (toPys ys) = D.eqs xs ys
  | [], [], _, _ => by simp only [toPys, PyData.eqvAll, D.eqs]
  | [], _ :: _, _, _ => by simp only [toPys, PyData.eqvAll, D.eqs]
  | _ :: _, [], _, _ => by simp only [toPys, PyData.eqvAll, D.eqs]
  | x :: xs, y :: ys, h, h' => by
    unfold D.lays at h h'
    rw [Bool.and_eq_true] at h h'
    simp only [toPys, PyData.eqvAll, D.eqs]
    rw [toPy_eqv x y h.1 h'.1, toPys_eqv xs ys h.2 h'.2]
end
theorem toPys_len (xs : List D) : (toPys xs).length = xs.length := by
  induction xs with
  | nil => rfl
  | cons x xs ih => simp [toPys, ih]
mutual
theorem Rep.dp {K : PySem.W.Frag} {G : Hp} : ∀ (d : D) (v : V), d.lay = true → Rep K G v d → Dp K G v (toPy d)
  | .non, _, _, r => by cases r; exact .non
  | .bl _, _, _, r => by cases r; exact .bl _
  | .int _, _, _, r => by cases r; exact .int _
  | .str x, _, _, r => by cases r; unfold toPy; rw [mk_tl]; exact .str _
  | .tup xs, _, h, r => by
    unfold D.lay at h
    obtain ⟨a, vs, e, s, q⟩ := r.tup'
    subst e
    unfold toPy; exact .tup s (Reps.dp xs _ h q)
  | .lst xs, _, h, r => by
    unfold D.lay at h
    cases r with | lst s l q => unfold toPy; exact .lst (.inl (.inl s)) (Reps.dp xs _ h ⟨l, q⟩)
  | .dct _ _, _, h, _ => by unfold D.lay at h; cases h
  | .scr _, _, h, _ => by unfold D.lay at h; cases h
theorem Reps.dp {K : PySem.W.Frag} {G : Hp} : ∀ (xs : List D) (vs : List V), D.lays xs = true → Reps K G vs xs → DpAll K G vs (toPys xs)
  | [], _, _, r => by have := r.nilOf; subst this; exact .nil
  | x :: xs, _, h, r => by
    unfold D.lays at h
    rw [Bool.and_eq_true] at h
    obtain ⟨v, ws, rfl, r1, r2⟩ := r.consOf
    exact .cons (Rep.dp x v h.1 r1) (Reps.dp xs ws h.2 r2)
end
theorem RepB.dp {K : PySem.W.Frag} {H G : Hp} {v : V} {d : D} (s : Same G H) (h : d.lay = true) (r : RepB K H G v d) : Dp K H v (toPy d) := by
  rcases r with r | ⟨p, e, c⟩
  · exact Rep.dp d v h (r.same s)
  · subst e
    cases c with
    | lst a b => unfold D.lay at h; unfold toPy; exact .lst (.inl (.inl a)) (Reps.dp _ _ h (b.same s))
    | dk _ _ => unfold D.lay at h; cases h
    | dt _ _ => unfold D.lay at h; cases h
theorem good_lay {d : D} (h : d.good = true) : d.lay = true := by
  unfold D.good at h
  rw [Bool.and_eq_true] at h
  exact h.1
theorem opd_eq (hu : X.A.units + 64 < cLine) : OpD X (compareOp .Eq) dEq := by
  refine ⟨fun d e c h => ?_, _, op_eq.or (op_eqD hu), fun H G x y d e z Q s rx ry h q => ?_⟩
  · unfold dEq at h; split at h <;> cases h
  · unfold dEq at h
    split at h
    · rename_i hc
      cases h
      by_cases hs : scalD d e = true
      · obtain ⟨h1, h2⟩ := scal_rep rx ry hs
        refine .inl ⟨h1, ?_⟩
        rw [h2]
        exact told s q (.bl _) rfl
      · rw [Bool.or_eq_true, Bool.and_eq_true] at hc
        obtain ⟨g1, g2⟩ := hc.resolve_left hs
        refine .inr ⟨_, _, rx.dp s (good_lay g1), ry.dp s (good_lay g2), toPy_shaped g1, toPy_shaped g2, ?_⟩
        rw [toPy_eqv d e (good_lay g1) (good_lay g2)]
        exact told s q (.bl _) rfl
    · cases h
theorem opd_ne (hu : X.A.units + 64 < cLine) : OpD X (compareOp .NotEq) dNe := by
  refine ⟨fun d e c h => ?_, _, op_ne.or (op_neD hu), fun H G x y d e z Q s rx ry h q => ?_⟩
  · unfold dNe at h; split at h <;> cases h
  · unfold dNe at h
    split at h
    · rename_i hc
      cases h
      by_cases hs : scalD d e = true
      · obtain ⟨h1, h2⟩ := scal_rep rx ry hs
        refine .inl ⟨h1, ?_⟩
        rw [h2]
        exact told s q (.bl _) rfl
      · rw [Bool.or_eq_true, Bool.and_eq_true] at hc
        obtain ⟨g1, g2⟩ := hc.resolve_left hs
        refine .inr ⟨_, _, rx.dp s (good_lay g1), ry.dp s (good_lay g2), toPy_shaped g1, toPy_shaped g2, ?_⟩
        rw [toPy_eqv d e (good_lay g1) (good_lay g2)]
        exact told s q (.bl _) rfl
    · cases h
end
end SR

set_option linter.all false
set_option autoImplicit false
set_option Elab.async false
set_option maxRecDepth 100000
set_option maxHeartbeats 1000000
/-! SRd: subscripts, in, slices, len, tests, displays. -/
namespace SR
open PySem PySem.Spec PyProof.Rows L2 TL
/-! ### keys -/
theorem keyD_eq (a b : Key) : D.eq (keyD a) (keyD b) = decide (a = b) := by
  cases a with
  | inl i =>
    cases b with
    | inl j => unfold keyD D.eq; rw [key_ll]
    | inr z => unfold keyD D.eq; rw [key_lr]
  | inr y =>
    cases b with
    | inl j => unfold keyD D.eq; rw [key_rl]
    | inr z =>
      unfold keyD D.eq
      rw [key_rr, Bool.eq_iff_iff, decide_eq_true_eq, beq_iff_eq]
      exact ⟨fun e => ext_tl e, fun e => by rw [e]⟩
theorem keyDs_eq : ∀ a b : List Key, D.eqs (a.map keyD) (b.map keyD) = decide (a = b)
  | [], [] => by simp [D.eqs]
  | [], _ :: _ => by simp [D.eqs]
  | _ :: _, [] => by simp [D.eqs]
  | a :: as, b :: bs => by
    simp only [List.map_cons, D.eqs, keyD_eq, keyDs_eq as bs]
    rw [Bool.eq_iff_iff]
    simp
theorem keyT_eq (a b : List Key) : D.eq (.tup (a.map keyD)) (.tup (b.map keyD)) = decide (a = b) := by
  unfold D.eq; exact keyDs_eq a b
/-- an entry of a dict and what is told of it -/
theorem look_of {κ : Type} [DecidableEq κ] {R : V → D → Prop} {kd : κ → D} (hk : ∀ a b, D.eq (kd a) (kd b) = decide (a = b)) :
    ∀ {kvs : List (κ × V)} {ds : List (D × D)}, kvs.length = ds.length → (∀ (i : Nat) (p : κ × V) (q : D × D), kvs[i]? = some p → ds[i]? = some q → q.1 = kd p.1 ∧ R p.2 q.2) → ∀ k : κ,
      (valV kvs k = none ∧ lookD ds (kd k) = none) ∨ ∃ v d, valV kvs k = some v ∧ lookD ds (kd k) = some d ∧ R v d
  | [], [], _, _, k => .inl ⟨rfl, rfl⟩
  | [], _ :: _, h, _, _ => absurd h (by simp)
  | _ :: _, [], h, _, _ => absurd h (by simp)
  | p :: kvs, q :: ds, hl, h, k => by
    obtain ⟨e, r⟩ := h 0 p q rfl rfl
    by_cases hp : p.1 = k
    · refine .inr ⟨p.2, q.2, valV_pos hp, ?_, r⟩
      unfold lookD
      rw [List.find?_cons, e, hk, hp]
      simp
    · rcases look_of hk (kvs := kvs) (ds := ds) (by simpa using hl) (fun i p q a b => h (i + 1) p q (by simpa using a) (by simpa using b)) k with ⟨a, b⟩ | ⟨v, d, a, b, r⟩
      · refine .inl ⟨by rw [valV_neg hp]; exact a, ?_⟩
        unfold lookD at b ⊢
        rw [List.find?_cons, e, hk]
        simp only [hp, decide_false]
        exact b
      · refine .inr ⟨v, d, by rw [valV_neg hp]; exact a, ?_, r⟩
        unfold lookD at b ⊢
        rw [List.find?_cons, e, hk]
        simp only [hp, decide_false]
        exact b
section
variable {K : PySem.W.Frag} {H G : Hp} {v : V} {d k : D} {Q : VK}
theorem flat_key {y : V} (h : fitK false k = true) (r : RepB K H G y k) : ∃ kk, y = kV kk ∧ k = keyD kk := by
  unfold fitK at h
  split at h
  · have := r.int; subst this; exact ⟨.inl _, rfl, rfl⟩
  · obtain ⟨z, rfl, rfl⟩ := r.str; exact ⟨.inr z, rfl, rfl⟩
  · simp at h
  · cases h
theorem keys_of : ∀ {xs : List D} {vs : List V}, xs.all D.key1 = true → Reps K G vs xs → ∃ ks : List Key, vs = ks.map kV ∧ xs = ks.map keyD
  | [], _, _, r => ⟨[], by rw [r.nilOf]; rfl, rfl⟩
  | x :: xs, _, h, r => by
    obtain ⟨v, ws, rfl, r1, r2⟩ := r.consOf
    rw [List.all_cons, Bool.and_eq_true] at h
    obtain ⟨ks, rfl, rfl⟩ := keys_of h.2 r2
    have hx := h.1
    cases r1 with
    | int i => exact ⟨.inl i :: ks, rfl, rfl⟩
    | str z => exact ⟨.inr z :: ks, rfl, rfl⟩
    | _ => cases hx
theorem tup_key {y : V} (s : Same G H) (h : fitK true k = true) (r : RepB K H G y k) : ∃ (ks : List Key) (b : Addr), y = .ref b ∧ H b = some (.tup (ks.map kV)) ∧ k = .tup (ks.map keyD) := by
  exfalso
  unfold fitK at h
  split at h <;> cases h
theorem bool_cases (t : Bool) : t = true ∨ t = false := by cases t <;> simp
/-- what a dict holds at a key -/
theorem dget_of {t : Bool} {ds : List (D × D)} {x y : V} (s : Same G H) (hf : fitK t k = true) (rx : RepB K H G x (.dct t ds)) (ry : RepB K H G y k) :
    ∃ a, x = .ref a ∧ IsD H a ∧ ((DGet H a y none ∧ lookD ds k = none) ∨ ∃ v d, DGet H a y (some v) ∧ lookD ds k = some d ∧ Rep K G v d) := by
  rcases bool_cases t with e | e
  · subst e
    obtain ⟨a, kvs, rfl, hr, q⟩ := rx.dctT s
    obtain ⟨ks, b, rfl, hb, rfl⟩ := tup_key s hf ry
    refine ⟨a, rfl, .inr ⟨kvs, hr⟩, ?_⟩
    rcases look_of (kd := fun ks : List Key => D.tup (ks.map keyD)) keyT_eq q.1 q.2 ks with ⟨h1, h2⟩ | ⟨v, d, h1, h2, r⟩
    · exact .inl ⟨.inr ⟨kvs, ks, b, hr, rfl, hb, h1.symm⟩, h2⟩
    · exact .inr ⟨v, d, .inr ⟨kvs, ks, b, hr, rfl, hb, h1.symm⟩, h2, r⟩
  · subst e
    obtain ⟨a, kvs, rfl, hr, q⟩ := rx.dctK s
    obtain ⟨kk, rfl, rfl⟩ := flat_key hf ry
    refine ⟨a, rfl, .inl ⟨kvs, hr⟩, ?_⟩
    rcases look_of (kd := keyD) keyD_eq q.1 q.2 kk with ⟨h1, h2⟩ | ⟨v, d, h1, h2, r⟩
    · exact .inl ⟨.inl ⟨kvs, kk, hr, rfl, h1.symm⟩, h2⟩
    · exact .inr ⟨v, d, .inl ⟨kvs, kk, hr, rfl, h1.symm⟩, h2, r⟩
end
/-! ### subscripts -/
theorem ixN_eq (n : Nat) (i : Int) : SR.ixN n i = L2.ixN n i := rfl
theorem atI_reps {K : PySem.W.Frag} {G : Hp} {vs : List V} {xs : List D} {i : Int} {x : D} (r : Reps K G vs xs) (h : SR.atI xs i = some x) : ∃ v, L2.atI vs i = some v ∧ Rep K G v x := by
  unfold SR.atI at h
  obtain ⟨j, hj, hx⟩ := Option.bind_eq_some_iff.mp h
  obtain ⟨v, hv, rv⟩ := r.get hx
  refine ⟨v, ?_, rv⟩
  unfold L2.atI
  rw [r.1]
  have hj' : L2.ixN xs.length i = some j := hj
  rw [hj']
  exact hv
section
variable {X : Cx} {ea : EA} {W : WX} {e a b c : Expr} {es : List Expr} {f g k : EX} {pos : Pos}
def rIxDT : R2 := fun x y H Q => ∃ a v, x = .ref a ∧ DGet H a y (some v) ∧ Q v H
theorem ix_dict (hu : X.A.units + 1 < cLine) : IxR X rIxDT := by
  intro value slice pins s σ H x y v u Q I rx ry h hs
  obtain ⟨a, w, rfl, g, q⟩ := h
  obtain rfl : v = Value.ref a := rx
  exact tail_any (dict_typeIs I g) slot_dict_getitem.lookup (d_getItem hu I g ry fun w' s3 I3 rw' => ⟨w, H, I3, rw', q⟩) hs
theorem ofO_ok {o : Option D} {z : D} (h : ofO o = .ok z) : o = some z := by
  cases o with
  | none => cases h
  | some d => cases h; rfl
theorem dIx_norm (d e : D) (c : Exc) : dIx d e ≠ .rs c := by
  intro h
  unfold dIx at h
  split at h
  · unfold ofO at h; split at h <;> cases h
  · unfold ofO at h; split at h <;> cases h
  · unfold ofO at h; split at h <;> cases h
  · split at h
    · split at h <;> cases h
    · cases h
  · split at h
    · unfold ofO at h; split at h <;> cases h
    · cases h
  · cases h
theorem ixd {H G : Hp} {x y : V} {d e z : D} {Q : VK} (s : Same G H) (rx : RepB X.K H G x d) (ry : RepB X.K H G y e) (h : dIx d e = .ok z) (q : ∀ v, Rep X.K G v z → Q v H) :
    rIx X.K x y H Q ∨ rIxDT x y H Q := by
  unfold dIx at h
  split at h
  · obtain ⟨p, vs, rfl, hp, r⟩ := rx.lst s
    have e2 := ry.int; subst e2
    obtain ⟨v, hv, rv⟩ := atI_reps r (ofO_ok h)
    exact .inl (.inl ⟨p, vs, _, v, rfl, rfl, .inl (.inl hp), hv, q v rv⟩)
  · obtain ⟨p, vs, rfl, hp, r⟩ := rx.tup
    have e2 := ry.int; subst e2
    obtain ⟨v, hv, rv⟩ := atI_reps r (ofO_ok h)
    exact .inl (.inr (.inl ⟨p, vs, _, v, rfl, rfl, same_sqT s hp, hv, q v rv⟩))
  · rename_i ns i
    obtain ⟨p, rfl, hp⟩ := rx.scr s
    have e2 := ry.int; subst e2
    have h' := ofO_ok h
    obtain ⟨n, hn, rfl⟩ := Option.map_eq_some_iff.mp h'
    refine .inl (.inl ⟨p, _, _, .int n, rfl, rfl, hp, ?_, q _ (.int n)⟩)
    unfold SR.atI at hn
    obtain ⟨j, hj, hx⟩ := Option.bind_eq_some_iff.mp hn
    unfold L2.atI
    have hj' : L2.ixN ns.length i = some j := hj
    rw [List.length_map, hj']
    show (ns.map V.int)[j]? = _
    rw [List.getElem?_map, hx]
    rfl
  · rename_i xs i
    split at h
    · rename_i hl
      split at h
      · rename_i c hc
        cases h
        obtain ⟨zz, rfl, e1⟩ := rx.str
        have e2 := ry.int; subst e2
        refine .inl (.inr (.inr ⟨zz, _, c, rfl, rfl, ?_, ?_, q _ (.str _)⟩))
        · rw [len_tl, ← line_eq, e1]; exact hl
        · have : zz.cps.toList = xs := e1
          rw [this]; exact hc
      · cases h
    · cases h
  · split at h
    · rename_i hf
      obtain ⟨a, rfl, _, hh⟩ := dget_of s hf rx ry
      rcases hh with ⟨_, l⟩ | ⟨v, d, g, l, r⟩
      · rw [l] at h; cases h
      · rw [l] at h
        cases h
        exact .inr ⟨a, v, rfl, g, q v r⟩
    · cases h
  · cases h
/-- a[b] -/
theorem eg_ix (hu : X.A.units + 1 < cLine) (ha : EB X ea W a f) (hb : EB X ea W b g) (hs : PlainIx b := by exact fun _ _ => rfl) : EG X ea W (.Subscript a b pos) (SR.bin dIx f g) := by
  refine PE.imp (pe_ix (ix_seq.or (ix_dict hu)) ha hb hs) fun σ H Q ⟨ρ, G, ok, q⟩ => ?_
  refine ⟨ρ, G, ok, q.bind fun d v H1 G1 x1 m1 q1 => ⟨ρ, G1, ok.ext x1, (q1.extG x1).bind fun e' u H2 G2 x2 m2 q2 => ?_⟩⟩
  have q3 := q2.extG x2
  cases r' : dIx d e' with
  | ok z => rw [r'] at q3; exact ixd x2.gh (m1.ext x2) m2 r' fun v' rv => q3 v' H2 G2 (.refl x2.gh) rv
  | rs c => exact absurd r' (dIx_norm _ _ _)
  | bad => rw [r'] at q3; exact q3.elim
/-! ### in -/
theorem flatV_of {K : PySem.W.Frag} {H G : Hp} {v : V} {d : D} (r : RepB K H G v d) (h : d.flat = true) : flatV v = true := by
  rcases r with r | ⟨p, e, c⟩
  · cases r with
    | non => rfl
    | bl _ => rfl
    | int _ => rfl
    | str _ => rfl
    | _ => cases h
  · cases c <;> cases h
theorem eqV_of {K : PySem.W.Frag} {H G : Hp} {x y : V} {d e : D} (rx : RepB K H G x d) (ry : RepB K H G y e) (hd : d.flat = true) (he : e.flat = true) : eqV x y = D.eq d e := by
  have go : ∀ {v : V} {d : D}, RepB K H G v d → d.flat = true → (v = .non ∧ d = .non) ∨ (∃ b, v = .bl b ∧ d = .bl b) ∨ (∃ i, v = .int i ∧ d = .int i) ∨ ∃ z, v = .str z ∧ d = .str (tl z) := by
    intro v d r h
    rcases r with r | ⟨p, e, c⟩
    · cases r with
      | non => exact .inl ⟨rfl, rfl⟩
      | bl b => exact .inr (.inl ⟨b, rfl, rfl⟩)
      | int i => exact .inr (.inr (.inl ⟨i, rfl, rfl⟩))
      | str z => exact .inr (.inr (.inr ⟨z, rfl, rfl⟩))
      | _ => cases h
    · cases c <;> cases h
  rcases go rx hd with ⟨rfl, rfl⟩ | ⟨b, rfl, rfl⟩ | ⟨i, rfl, rfl⟩ | ⟨z, rfl, rfl⟩ <;> rcases go ry he with ⟨rfl, rfl⟩ | ⟨b', rfl, rfl⟩ | ⟨i', rfl, rfl⟩ | ⟨z', rfl, rfl⟩
  all_goals (unfold D.eq eqV)
  all_goals first
    | rfl
    | skip
  rw [Bool.eq_iff_iff, beq_iff_eq, beq_iff_eq]
  exact ⟨fun e => by rw [e], fun e => ext_tl e⟩
theorem any_of {K : PySem.W.Frag} {H G : Hp} {x : V} {d : D} (rx : RepB K H G x d) (hd : d.flat = true) : ∀ {vs : List V} {xs : List D}, Reps K G vs xs → xs.all D.flat = true →
    vs.all flatV = true ∧ inV x vs = xs.any fun y => D.eq y d
  | vs, [], r, _ => by rw [r.nilOf]; exact ⟨rfl, rfl⟩
  | vs, y :: ys, r, h => by
    obtain ⟨v, ws, rfl, r1, r2⟩ := r.consOf
    rw [List.all_cons, Bool.and_eq_true] at h
    obtain ⟨h1, h2⟩ := any_of rx hd r2 h.2
    refine ⟨by rw [List.all_cons, h1, flatV_of (.inl r1 : RepB K H G v y) h.1]; rfl, ?_⟩
    unfold inV at h2 ⊢
    rw [List.any_cons, List.any_cons, h2, eqV_of (.inl r1 : RepB K H G v y) rx h.1 hd]
theorem any_py {d : D} (hd : d.lay = true) : ∀ {xs : List D}, D.lays xs = true → ((toPys xs).any fun z => PyData.eqv z (toPy d)) = xs.any fun y => D.eq y d
  | [], _ => rfl
  | x :: xs, h => by
    unfold D.lays at h
    rw [Bool.and_eq_true] at h
    show ((toPy x :: toPys xs).any _) = _
    rw [List.any_cons, List.any_cons, any_py hd h.2, toPy_eqv x d h.1 hd]
def rInA (K : PySem.W.Frag) : R2 := fun x y H Q => (∃ (c : Nat) (z : Str), x = .str ⟨#[c]⟩ ∧ y = .str z ∧ Q (.bl (decide (c ∈ z.cps.toList))) H) ∨ (∃ a o, y = .ref a ∧ DGet H a x o ∧ Q (.bl o.isSome) H) ∨ rIn K false x y H Q ∨ rInD K x y H Q
def rNotInA (K : PySem.W.Frag) : R2 := fun x y H Q => (∃ (c : Nat) (z : Str), x = .str ⟨#[c]⟩ ∧ y = .str z ∧ Q (.bl (!decide (c ∈ z.cps.toList))) H) ∨ (∃ a o, y = .ref a ∧ DGet H a x o ∧ Q (.bl (!o.isSome)) H) ∨ rIn K true x y H Q ∨ rNotInD K x y H Q
theorem op_inDict (hu : X.A.units + 1 < cLine) : OpR X (compareOp .In) (fun x y H Q => ∃ a o, y = .ref a ∧ DGet H a x o ∧ Q (.bl o.isSome) H) := by
  intro pins s σ H x y v u Q I rx ry h
  obtain ⟨a, o, rfl, g, q⟩ := h
  obtain rfl : u = Value.ref a := ry
  exact d_in hu I g rx fun s3 I3 => ⟨.bl o.isSome, H, I3, rfl, q⟩
theorem op_notInDict (hu : X.A.units + 1 < cLine) : OpR X (compareOp .NotIn) (fun x y H Q => ∃ a o, y = .ref a ∧ DGet H a x o ∧ Q (.bl (!o.isSome)) H) := by
  intro pins s σ H x y v u Q I rx ry h
  obtain ⟨a, o, rfl, g, q⟩ := h
  obtain rfl : u = Value.ref a := ry
  exact d_notIn hu I g rx fun s3 I3 => ⟨.bl (!o.isSome), H, I3, rfl, q⟩
theorem op_inA (hu : X.A.units + 65 < cLine) : OpR X (compareOp .In) (rInA X.K) := op_in_sign.or ((op_inDict (by omega)).or (op_in_seq.or (op_inD hu)))
theorem op_notInA (hu : X.A.units + 65 < cLine) : OpR X (compareOp .NotIn) (rNotInA X.K) := op_notIn_sign.or ((op_notInDict (by omega)).or (op_notIn_seq.or (op_notInD hu)))
theorem ind {H G : Hp} {x y : V} {d e z : D} {Q : VK} (s : Same G H) (rx : RepB X.K H G x d) (ry : RepB X.K H G y e) (h : dIn d e = .ok z) : ∃ k, z = .bl k ∧ ∀ Q : VK, (Q (.bl k) H → rInA X.K x y H Q) ∧ (Q (.bl (!k)) H → rNotInA X.K x y H Q) := by
  unfold dIn at h
  split at h
  · rename_i c xs
    cases h
    obtain ⟨zx, rfl, e1⟩ := rx.str
    obtain ⟨zy, rfl, e2⟩ := ry.str
    have e1' : zx = ⟨#[c]⟩ := ext_tl e1
    subst e1'
    have hk : decide (c ∈ zy.cps.toList) = xs.contains c := by
      have : zy.cps.toList = xs := e2
      rw [this, List.contains_eq_mem]
    exact ⟨_, rfl, fun Q => ⟨fun q => .inl ⟨c, zy, rfl, rfl, by rw [hk]; exact q⟩, fun q => .inl ⟨c, zy, rfl, rfl, by rw [hk]; exact q⟩⟩⟩
  · split at h
    · rename_i hf
      cases h
      obtain ⟨a, rfl, _, hh⟩ := dget_of s hf ry rx
      rcases hh with ⟨g, l⟩ | ⟨v, d, g, l, r⟩
      · exact ⟨_, rfl, fun Q => ⟨fun q => .inr (.inl ⟨a, none, rfl, g, by rw [l] at q; exact q⟩), fun q => .inr (.inl ⟨a, none, rfl, g, by rw [l] at q; exact q⟩)⟩⟩
      · exact ⟨_, rfl, fun Q => ⟨fun q => .inr (.inl ⟨a, some v, rfl, g, by rw [l] at q; exact q⟩), fun q => .inr (.inl ⟨a, some v, rfl, g, by rw [l] at q; exact q⟩)⟩⟩
    · cases h
  · split at h
    · rename_i xs hc
      cases h
      by_cases hf : (d.flat && xs.all D.flat) = true
      · rw [Bool.and_eq_true] at hf
        obtain ⟨p, vs, rfl, hp, r⟩ := ry.lst s
        obtain ⟨h1, h2⟩ := any_of rx hf.1 r hf.2
        refine ⟨_, rfl, fun Q => ⟨fun q => .inr (.inr (.inl ⟨p, vs, rfl, .inl (.inl (.inl hp)), flatV_of rx hf.1, h1, ?_⟩)), fun q => .inr (.inr (.inl ⟨p, vs, rfl, .inl (.inl (.inl hp)), flatV_of rx hf.1, h1, ?_⟩))⟩⟩
        · rw [if_neg Bool.false_ne_true, h2]; exact q
        · rw [if_pos rfl, h2]; exact q
      · rw [Bool.or_eq_true] at hc
        have hc := hc.resolve_left hf
        rw [Bool.and_eq_true] at hc
        have gl := good_lay hc.2
        have hs := toPy_shaped hc.2
        have hd := ry.dp s gl
        unfold toPy at hs hd
        unfold D.lay at gl
        refine ⟨_, rfl, fun Q => ⟨fun q => .inr (.inr (.inr ⟨_, _, rx.dp s (good_lay hc.1), hd, toPy_shaped hc.1, hs, ?_⟩)), fun q => .inr (.inr (.inr ⟨_, _, rx.dp s (good_lay hc.1), hd, toPy_shaped hc.1, hs, ?_⟩))⟩⟩
        · rw [any_py (good_lay hc.1) gl]; exact q
        · rw [any_py (good_lay hc.1) gl]; exact q
    · cases h
  · split at h
    · rename_i xs hf
      cases h
      rw [Bool.and_eq_true] at hf
      obtain ⟨p, vs, rfl, hp, r⟩ := ry.tup
      obtain ⟨h1, h2⟩ := any_of rx hf.1 r hf.2
      refine ⟨_, rfl, fun Q => ⟨fun q => .inr (.inr (.inl ⟨p, vs, rfl, .inr (same_sqT s hp), flatV_of rx hf.1, h1, ?_⟩)), fun q => .inr (.inr (.inl ⟨p, vs, rfl, .inr (same_sqT s hp), flatV_of rx hf.1, h1, ?_⟩))⟩⟩
      · rw [if_neg Bool.false_ne_true, h2]; exact q
      · rw [if_pos rfl, h2]; exact q
    · cases h
  · cases h
theorem dIn_norm (d e : D) (c : Exc) : dIn d e ≠ .rs c := by
  intro h
  unfold dIn at h
  split at h <;> (try split at h) <;> cases h
theorem opd_in (hu : X.A.units + 65 < cLine) : OpD X (compareOp .In) dIn :=
  ⟨dIn_norm, _, op_inA hu, fun H G x y d e z Q s rx ry h q => by
    obtain ⟨k, rfl, w⟩ := ind (Q := Q) s rx ry h
    exact (w Q).1 (told s q (.bl _) rfl)⟩
theorem opd_notIn (hu : X.A.units + 65 < cLine) : OpD X (compareOp .NotIn) dNotIn := by
  refine ⟨fun d e c h => ?_, _, op_notInA hu, fun H G x y d e z Q s rx ry h q => ?_⟩
  · unfold dNotIn at h
    cases r : dIn d e with
    | ok k =>
      rw [r] at h
      unfold Res.bind notB at h
      simp only at h
      split at h <;> cases h
    | rs c => exact dIn_norm _ _ _ r
    | bad => rw [r] at h; cases h
  · unfold dNotIn at h
    cases r : dIn d e with
    | ok k =>
      rw [r] at h
      obtain ⟨k', rfl, w⟩ := ind (Q := Q) s rx ry r
      cases h
      exact (w Q).2 (told s q (.bl _) rfl)
    | rs c => exact absurd r (dIn_norm _ _ _)
    | bad => rw [r] at h; cases h
end
end SR

set_option linter.all false
set_option autoImplicit false
set_option Elab.async false
set_option maxRecDepth 100000
set_option maxHeartbeats 1000000
/-! SRe: slices, tests, and, or, not, displays. -/
namespace SR
open PySem PySem.Spec PyProof.Rows L2 TL
section
variable {X : Cx} {ea : EA} {W : WX} {e a b c : Expr} {es rest : List Expr} {f g k : EX} {t u : TX} {pos p2 : Pos}
/-! ### slices -/
def rdPX (ea : EA) (W : WX) (r : Res (Option Int)) (σ : Sg) (H G : Hp) (Q : Option Int → Hp → Prop) : Prop := match r with
  | .ok b => ∀ H' G', Ext H G H' G' → Q b H'
  | .rs c => ∀ H' G', Ext H G H' G' → W (.ref (ea c)) none σ H'
  | .bad => False
def rdP (K : PySem.W.Frag) (ea : EA) (W : WX) (f : Env → Res (Option Int)) : TO := fun σ H Q => ∃ ρ G, EnvOk K ρ σ H G ∧ rdPX ea W (f ρ) σ H G Q
def EO (X : Cx) (ea : EA) (W : WX) (e : Option Expr) (f : Option EX) : Prop := PO X e (rdP X.K ea W (okP f))
theorem PO.imp {e : Option Expr} {t t' : TO} (h : PO X e t) (k : ∀ σ H Q, t' σ H Q → t σ H Q) : PO X e t' := ⟨fun pins s σ H Q I q => h.run pins s σ H Q I (k σ H Q q)⟩
theorem eo_none : EO X ea W none none := PO.imp po_none fun σ H Q ⟨ρ, G, ok, q⟩ => q H G (.refl ok.gh)
theorem eo_some (h : EB X ea W e f) : EO X ea W (some e) (some f) := PO.imp (po_some h) fun σ H Q ⟨ρ, G, ok, q⟩ => by
  have q : rdPX ea W ((f ρ).bind fun d => match d with | .int i => .ok (some i) | _ => .bad) σ H G Q := q
  refine ⟨ρ, G, ok, ?_⟩
  cases r : f ρ with
  | bad => rw [r] at q; exact q
  | rs c => rw [r] at q; exact q
  | ok d =>
    rw [r] at q
    intro v H1 G1 x1 m1
    cases d with
    | int i =>
      have e1 := RepB.int m1
      subst e1
      exact ⟨i, rfl, q H1 G1 x1⟩
    | _ => exact q.elim
theorem cut_reps {K : PySem.W.Frag} {G : Hp} {vs : List V} {xs : List D} (r : Reps K G vs xs) (lo hi : Option Int) : Reps K G (cutV vs lo hi) (cut xs lo hi) := by
  unfold cutV cut
  rw [r.1]
  exact (r.drop _).take _
theorem cut_len {α : Type} (xs : List α) (lo hi : Option Int) : (cut xs lo hi).length ≤ xs.length := by
  unfold cut; rw [List.length_take, List.length_drop]; omega
theorem ef_cut {lo hi : Option Expr} {l h : Option EX} (ha : EB X ea W a f) (hl : EO X ea W lo l) (hh : EO X ea W hi h) : EF X ea W (.Subscript a (.Slice lo hi none p2) pos) (cutE f l h) := by
  refine PE.imp (pe_slice (sl_list.or (sl_tupF.or sl_str)) ha hl hh) fun σ H Q ⟨ρ, G, ok, q⟩ => ?_
  refine ⟨ρ, G, ok, q.bind fun d v H1 G1 x1 m1 q1 => ⟨ρ, G1, ok.ext x1, ?_⟩⟩
  have q1 := q1.extF x1
  cases r1 : okP l ρ with
  | bad => rw [r1] at q1; exact q1
  | rs c => rw [r1] at q1; exact q1
  | ok o1 =>
    rw [r1] at q1
    intro H2 G2 x2
    refine ⟨ρ, G2, (ok.ext x1).ext x2, ?_⟩
    have q2 := q1.extF x2
    unfold Res.bind at q2
    simp only at q2
    cases r2 : okP h ρ with
    | bad => rw [r2] at q2; exact q2
    | rs c => rw [r2] at q2; exact q2
    | ok o2 =>
      rw [r2] at q2
      intro H3 G3 x3
      have q3 := q2.extF x3
      have m3 : RepB X.K H3 G3 v d := (m1.ext x2).ext x3
      simp only at q3
      unfold dCut at q3
      split at q3
      · obtain ⟨p, vs, rfl, hp, r⟩ := m3.lst x3.gh
        exact .inl ⟨p, vs, rfl, .inl (.inl hp), new_lst x3.gh (cut_reps r o1 o2) q3⟩
      · rename_i xs _
        have m4 := m3.rep rfl
        obtain ⟨p, vs, e1, hp, r⟩ := m3.tup
        subst e1
        refine .inr (.inl ⟨p, vs, rfl, same_sqT x3.gh hp, fun hw => ?_, fun hw => new_tup x3.gh (cut_reps r o1 o2) q3⟩)
        have e2 : cut xs o1 o2 = xs := by
          unfold cut
          have h1 : sIx xs.length 0 o1 = 0 := by rw [← r.1]; exact hw.1
          have h2 : sIx xs.length xs.length o2 = xs.length := by rw [← r.1]; exact hw.2
          rw [h1, h2, List.drop_zero, Nat.sub_zero, List.take_length]
        rw [e2] at q3
        exact told x3.gh q3 m4 rfl
      · split at q3
        · rename_i xs _ hz
          obtain ⟨z, rfl, e1⟩ := m3.str
          refine .inr (.inr ⟨z, rfl, by rw [len_tl, ← line_eq, e1]; exact hz, told x3.gh q3 ?_ rfl⟩)
          have : tl (cutS z o1 o2) = cut xs o1 o2 := by
            unfold cutS cut
            rw [tl_mk]
            have e2 : z.cps.toList = xs := e1
            rw [len_tl, e1, e2]
            rfl
          rw [← this]
          exact .str _
        · exact q3.elim
      · exact q3.elim
/-- xs[::-1] of a list -/
theorem ef_revL {j : Nat} {p1 p2 p3 : Pos} (ha : EB X ea W a f) : EF X ea W (.Subscript a (.Slice none none (some (.UnaryOp .USub (.Constant (.int 1) j p1) p2)) p3) pos) (un (fun d => match d with | .lst xs => .ok (.lst xs.reverse) | _ => .bad) f) := by
  refine PE.imp (pe_revL ha) fun σ H Q ⟨ρ, G, ok, q⟩ => ?_
  refine ⟨ρ, G, ok, q.bind fun d v H1 G1 x1 m1 q1 => ?_⟩
  have q1 := q1.extF x1
  split at q1
  · obtain ⟨p, vs, rfl, hp, r⟩ := RepB.lst x1.gh m1
    exact ⟨p, vs, rfl, .inl (.inl hp), new_lst x1.gh r.reverse q1⟩
  · exact q1.elim
/-! ### one-place operations and calls by values -/
theorem ef_neg (ha : EB X ea W a f) : EF X ea W (.UnaryOp .USub a pos) (un dNeg f) := by
  refine PE.imp (pe_un un_neg ha) fun σ H Q ⟨ρ, G, ok, q⟩ => ?_
  refine ⟨ρ, G, ok, q.bind fun d v H1 G1 x1 m1 q1 => ?_⟩
  have q1 := q1.extF x1
  cases d with
  | int i =>
    have e1 := RepB.int m1
    subst e1
    exact ⟨i, rfl, told x1.gh q1 (.int _) rfl⟩
  | _ => exact q1.elim
/-! ### tests -/
theorem isE_len {α β : Type} {xs : List α} {ys : List β} (h : xs.length = ys.length) : (!xs.isEmpty) = !ys.isEmpty := by
  cases xs <;> cases ys <;> first | rfl | (simp at h)
theorem tru_of {H G : Hp} {v : V} {d : D} {k : Bool} (s : Same G H) (r : RepB X.K H G v d) (h : dTruth d = .ok k) : TruV X.K v H k := by
  unfold dTruth at h
  split at h
  · have := r.non; subst this; cases h; rfl
  · have := r.bl; subst this; cases h; rfl
  · have := r.int; subst this; cases h; rfl
  · split at h
    · rename_i hz
      obtain ⟨z, rfl, rfl⟩ := r.str
      cases h
      refine ⟨by rw [len_tl, ← line_eq]; exact hz, ?_⟩
      rw [len_tl]
      cases tl z <;> simp
      omega
    · cases h
  · obtain ⟨p, vs, rfl, hp, q⟩ := r.lst s
    cases h
    refine .inl ⟨vs, .inl (.inl hp), ?_⟩
    exact isE_len q.1.symm
  · obtain ⟨p, vs, rfl, hp, q⟩ := r.tup
    cases h
    refine .inr (.inl ⟨vs, same_sqT s hp, ?_⟩)
    exact isE_len q.1.symm
  · cases h
theorem dTruth_norm (d : D) (c : Exc) : dTruth d ≠ .rs c := by
  intro h; unfold dTruth at h; split at h <;> (try split at h) <;> cases h
theorem et_tst (ha : EB X ea W a f) (he : ∀ whole, isTrue a X.env whole = (do let v ← whole; standAt a.pos; holding [v] (truthy v)) := by intro _; rfl) : ET X ea W a (tst f) := by
  refine PT.imp (pt_truth ha he) fun σ H Q ⟨ρ, G, ok, q⟩ => ?_
  refine ⟨ρ, G, ok, rdX.bindT q fun d v H1 G1 x1 m1 q1 => ?_⟩
  have q2 := q1.ext x1
  cases r : dTruth d with
  | ok k => rw [r] at q2; exact ⟨k, tru_of x1.gh m1 r, q2 H1 G1 (.refl x1.gh)⟩
  | rs c => exact absurd r (dTruth_norm _ _)
  | bad => rw [r] at q2; exact q2.elim
/-- a comparison as a test -/
theorem et_cmp {o : CmpOp} {op : D → D → Res D} (ho : OpD X (compareOp o) op) (ha : EB X ea W a f) (hb : EB X ea W b g) (hm : behindInMarks o b = false := by rfl) : ET X ea W (.Compare a [o] [b] pos) (tstB (SR.bin op f g)) := by
  obtain ⟨nr, r, h1, h2⟩ := ho
  refine PT.imp (pt_cmpR h1 ha hb hm) fun σ H Q ⟨ρ, G, ok, q⟩ => ?_
  have key : rdX ea W (mF X.K) (SR.bin op f g ρ) σ H G (fun x H' => ∃ k, x = .bl k ∧ Q k H') := by
    refine rdX.bindT q fun d v H1 G1 x1 m1 q1 => ?_
    have q2 := q1.ext x1
    cases d with
    | bl k =>
      have e1 := (RepF.b m1).bl
      exact ⟨k, e1, q2 H1 G1 (.refl x1.gh)⟩
    | _ => exact q2.elim
  exact rd_bin h2 nr ⟨ρ, G, ok, key⟩
theorem opd_done {fo : Value → Value → Sem Value} {op : D → D → Res D} {r : R2} (ho : ∀ (H G : Hp) (x y : V) (d e z : D) (Q : VK), Same G H → RepB X.K H G x d → RepB X.K H G y e → op d e = .ok z → (∀ v H' G', Ext H G H' G' → RepF X.K H H' G' v z → Q v H') → r x y H Q) (nr : ∀ d e c, op d e ≠ .rs c)
    {σ : Sg} {H G : Hp} {x y : V} {d e : D} {Q : VK} (s : Same G H) (rx : RepB X.K H G x d) (ry : RepB X.K H G y e) (q : rdX ea W (mF X.K) (op d e) σ H G Q) : r x y H Q := by
  cases r' : op d e with
  | ok z => rw [r'] at q; exact ho H G x y d e z Q s rx ry r' q
  | rs c => exact absurd r' (nr _ _ _)
  | bad => rw [r'] at q; exact q.elim
theorem chain_rd {op op' : D → D → Res D} {r r' : R2} (ho : ∀ (H G : Hp) (x y : V) (d e z : D) (Q : VK), Same G H → RepB X.K H G x d → RepB X.K H G y e → op d e = .ok z → (∀ v H' G', Ext H G H' G' → RepF X.K H H' G' v z → Q v H') → r x y H Q) (nr : ∀ d e c, op d e ≠ .rs c)
    (ho' : ∀ (H G : Hp) (x y : V) (d e z : D) (Q : VK), Same G H → RepB X.K H G x d → RepB X.K H G y e → op' d e = .ok z → (∀ v H' G', Ext H G H' G' → RepF X.K H H' G' v z → Q v H') → r' x y H Q) (nr' : ∀ d e c, op' d e ≠ .rs c)
    {σ : Sg} {H : Hp} {Q : VK} (h : rd X.K ea W (mF X.K) (chainE op op' f g k) σ H Q) : tChain r r' (rd X.K ea W (mB X.K) f) (rd X.K ea W (mB X.K) g) (rd X.K ea W (mB X.K) k) σ H Q := by
  obtain ⟨ρ, G, ok, q⟩ := h
  refine ⟨ρ, G, ok, q.bind fun d v H1 G1 x1 m1 q1 => ⟨ρ, G1, ok.ext x1, (q1.extF x1).bind fun e' u H2 G2 x2 m2 q2 => ?_⟩⟩
  have q3 := q2.extF x2
  have m1' : RepB X.K H2 G2 v d := m1.ext x2
  cases r1 : op d e' with
  | rs c => exact absurd r1 (nr _ _ _)
  | bad => rw [r1] at q3; exact q3.elim
  | ok z =>
    rw [r1] at q3
    refine ho H2 G2 v u d e' z _ x2.gh m1' m2 r1 fun z' H3 G3 x3 m3 => ?_
    simp only [ok_bind] at q3
    cases z with
    | bl kk =>
      have e1 := (RepF.b m3).bl
      subst e1
      refine ⟨kk, rfl, ?_⟩
      cases kk with
      | true =>
        rw [if_pos rfl]
        have q4 := rdX.extF x3 q3
        refine ⟨ρ, G3, ((ok.ext x1).ext x2).ext x3, q4.bind fun y w H4 G4 x4 m4 q5 => ?_⟩
        exact opd_done (fo := fun _ _ => pure .none) ho' nr' x4.gh ((RepB.ext x3 m2).ext x4) m4 (q5.extF x4)
      | false =>
        rw [if_neg Bool.false_ne_true]
        have q4 := rdX.extF x3 q3
        exact told x3.gh q4 (.bl _) rfl
    | _ => exact q3.elim
theorem ef_chain {o o' : CmpOp} {op op' : D → D → Res D} (ho : OpD X (compareOp o) op) (ho' : OpD X (compareOp o') op') (ha : EB X ea W a f) (hb : EB X ea W b g) (hc : EB X ea W c k) (hm : lastMarks [o, o'] [b, c] = false := by with_unfolding_all rfl) :
    EF X ea W (.Compare a [o, o'] [b, c] pos) (chainE op op' f g k) := by
  obtain ⟨nr, r, h1, h2⟩ := ho
  obtain ⟨nr', r', h1', h2'⟩ := ho'
  exact PE.imp (pe_chain h1 h1' ha hb hc hm) fun σ H Q q => chain_rd h2 nr h2' nr' q
theorem et_chain {o o' : CmpOp} {op op' : D → D → Res D} (ho : OpD X (compareOp o) op) (ho' : OpD X (compareOp o') op') (ha : EB X ea W a f) (hb : EB X ea W b g) (hc : EB X ea W c k) (hm : lastMarks [o, o'] [b, c] = false := by with_unfolding_all rfl) :
    ET X ea W (.Compare a [o, o'] [b, c] pos) (tstB (chainE op op' f g k)) := by
  obtain ⟨nr, r, h1, h2⟩ := ho
  obtain ⟨nr', r', h1', h2'⟩ := ho'
  refine PT.imp (pt_chain h1 h1' ha hb hc hm) fun σ H Q ⟨ρ, G, ok, q⟩ => ?_
  have key : rdX ea W (mF X.K) (chainE op op' f g k ρ) σ H G (fun x H' => ∃ k, x = .bl k ∧ Q k H') := by
    refine rdX.bindT q fun d v H1 G1 x1 m1 q1 => ?_
    have q2 := q1.ext x1
    cases d with
    | bl k =>
      have e1 := (RepF.b m1).bl
      exact ⟨k, e1, q2 H1 G1 (.refl x1.gh)⟩
    | _ => exact q2.elim
  exact chain_rd h2 nr h2' nr' ⟨ρ, G, ok, key⟩
/-! and, or, not -/
def EW (X : Cx) (ea : EA) (W : WX) (e : Expr) (f : TX) : Prop := PW X e (rdT X.K ea W f)
theorem PW.imp {e : Expr} {t t' : TT} (h : PW X e t) (k : ∀ σ H Q, t' σ H Q → t σ H Q) : PW X e t' := ⟨fun wh pins s σ H Q I q => h.run wh pins s σ H Q I (k σ H Q q)⟩
theorem EW.et (h : EW X ea W e t) : ET X ea W e t := PW.pt h
theorem ew_and1 (ha : ET X ea W a t) : EW X ea W (.BoolOp .And [a] pos) t := pw_and1 ha
theorem ew_or1 (ha : ET X ea W a t) : EW X ea W (.BoolOp .Or [a] pos) t := pw_or1 ha
theorem ew_and (ha : ET X ea W a t) (hb : EW X ea W (.BoolOp .And (b :: rest) pos) u) : EW X ea W (.BoolOp .And (a :: b :: rest) pos) (andT t u) := by
  refine PW.imp (pw_and ha hb) fun σ H Q ⟨ρ, G, ok, q⟩ => ?_
  refine ⟨ρ, G, ok, rdTX.bindT q fun d H1 G1 x1 q1 => ?_⟩
  have q2 := q1.ext x1
  cases d with
  | true => rw [if_pos rfl] at q2 ⊢; exact ⟨ρ, G1, ok.ext x1, q2⟩
  | false => rw [if_neg Bool.false_ne_true] at q2 ⊢; exact q2 H1 G1 (.refl x1.gh)
theorem ew_or (ha : ET X ea W a t) (hb : EW X ea W (.BoolOp .Or (b :: rest) pos) u) : EW X ea W (.BoolOp .Or (a :: b :: rest) pos) (orT t u) := by
  refine PW.imp (pw_or ha hb) fun σ H Q ⟨ρ, G, ok, q⟩ => ?_
  refine ⟨ρ, G, ok, rdTX.bindT q fun d H1 G1 x1 q1 => ?_⟩
  have q2 := q1.ext x1
  cases d with
  | false => rw [if_neg Bool.false_ne_true] at q2 ⊢; exact ⟨ρ, G1, ok.ext x1, q2⟩
  | true => rw [if_pos rfl] at q2 ⊢; exact q2 H1 G1 (.refl x1.gh)
theorem et_not (ha : ET X ea W a t) : ET X ea W (.UnaryOp .Not a pos) (notT t) := by
  refine PT.imp (pt_not ha) fun σ H Q ⟨ρ, G, ok, q⟩ => ?_
  refine ⟨ρ, G, ok, rdTX.bindT q fun d H1 G1 x1 q1 => ?_⟩
  exact q1.ext x1 H1 G1 (.refl x1.gh)
theorem eg_one {o : BoolOp} (h : EG X ea W a f) : EG X ea W (.BoolOp o [a] pos) f := pe_one h
theorem eg_and (ha : EB X ea W a f) (hb : EG X ea W (.BoolOp .And (b :: rest) pos) g) : EG X ea W (.BoolOp .And (a :: b :: rest) pos) (andE f g) := by
  refine PE.imp (pe_and ha hb) fun σ H Q ⟨ρ, G, ok, q⟩ => ?_
  refine ⟨ρ, G, ok, q.bind fun d v H1 G1 x1 m1 q1 => ?_⟩
  have q2 := q1.extG x1
  cases d with
  | bl kk =>
    have e1 := RepB.bl m1
    subst e1
    refine ⟨kk, rfl, ?_⟩
    cases kk with
    | true => rw [if_pos rfl]; exact ⟨ρ, G1, ok.ext x1, q2⟩
    | false => rw [if_neg Bool.false_ne_true]; exact q2 _ H1 G1 (.refl x1.gh) (.bl _)
  | _ => exact q2.elim
theorem eg_or (ha : EB X ea W a f) (hb : EG X ea W (.BoolOp .Or (b :: rest) pos) g) : EG X ea W (.BoolOp .Or (a :: b :: rest) pos) (orE f g) := by
  refine PE.imp (pe_or ha hb) fun σ H Q ⟨ρ, G, ok, q⟩ => ?_
  refine ⟨ρ, G, ok, q.bind fun d v H1 G1 x1 m1 q1 => ?_⟩
  have q2 := q1.extG x1
  cases d with
  | bl kk =>
    have e1 := RepB.bl m1
    subst e1
    refine ⟨kk, rfl, ?_⟩
    cases kk with
    | false => rw [if_neg Bool.false_ne_true]; exact ⟨ρ, G1, ok.ext x1, q2⟩
    | true => rw [if_pos rfl]; exact q2 _ H1 G1 (.refl x1.gh) (.bl _)
  | _ => exact q2.elim
theorem ef_not (ha : EB X ea W a f) : EF X ea W (.UnaryOp .Not a pos) (notE (tst f)) := by
  refine PE.imp (pe_notT ha) fun σ H Q ⟨ρ, G, ok, q⟩ => ?_
  refine ⟨ρ, G, ok, ?_⟩
  unfold notE tst at q
  cases rf : f ρ with
  | bad => rw [rf] at q; exact q
  | rs c => rw [rf] at q; exact q
  | ok d =>
    rw [rf] at q
    intro v H1 G1 x1 m1
    have q2 := rdX.extF x1 q
    simp only [ok_bind] at q2
    cases r : dTruth d with
    | ok k => rw [r] at q2; exact ⟨k, tru_of x1.gh m1 r, told x1.gh q2 (.bl _) rfl⟩
    | rs c => exact absurd r (dTruth_norm _ _)
    | bad => rw [r] at q2; exact q2.elim
theorem eg_if (hc : ET X ea W c t) (ha : EG X ea W a f) (hb : EG X ea W b g) : EG X ea W (.IfExp c a b pos) (ifE t f g) := by
  refine PE.imp (pe_ifExp hc ha hb) fun σ H Q ⟨ρ, G, ok, q⟩ => ?_
  refine ⟨ρ, G, ok, rdTX.bind q fun d H1 G1 x1 q1 => ?_⟩
  have q2 := q1.extG x1
  cases d with
  | true => rw [if_pos rfl] at q2 ⊢; exact ⟨ρ, G1, ok.ext x1, q2⟩
  | false => rw [if_neg Bool.false_ne_true] at q2 ⊢; exact ⟨ρ, G1, ok.ext x1, q2⟩
theorem ef_if (hc : ET X ea W c t) (ha : EF X ea W a f) (hb : EF X ea W b g) : EF X ea W (.IfExp c a b pos) (ifE t f g) := by
  refine PE.imp (pe_ifExp hc ha hb) fun σ H Q ⟨ρ, G, ok, q⟩ => ?_
  refine ⟨ρ, G, ok, rdTX.bind q fun d H1 G1 x1 q1 => ?_⟩
  have q2 := q1.extF x1
  cases d with
  | true => rw [if_pos rfl] at q2 ⊢; exact ⟨ρ, G1, ok.ext x1, q2⟩
  | false => rw [if_neg Bool.false_ne_true] at q2 ⊢; exact ⟨ρ, G1, ok.ext x1, q2⟩
/-- a if t else b, as a test -/
theorem et_if {t1 t2 : TX} (hc : ET X ea W c t) (ha : ET X ea W a t1) (hb : ET X ea W b t2)
    (h : ∀ {tc ta tb : TT}, PT X c tc → PT X a ta → PT X b tb → PT X (.IfExp c a b pos) (fun σ H Q => tc σ H fun d H1 => if d = true then ta σ H1 Q else tb σ H1 Q)) : ET X ea W (.IfExp c a b pos) (fun ρ => (t ρ).bind fun d => if d = true then t1 ρ else t2 ρ) := by
  refine PT.imp (h hc ha hb) fun σ H Q ⟨ρ, G, ok, q⟩ => ?_
  refine ⟨ρ, G, ok, rdTX.bindT q fun d H1 G1 x1 q1 => ?_⟩
  have q2 := q1.ext x1
  cases d with
  | true => rw [if_pos rfl] at q2 ⊢; exact ⟨ρ, G1, ok.ext x1, q2⟩
  | false => rw [if_neg Bool.false_ne_true] at q2 ⊢; exact ⟨ρ, G1, ok.ext x1, q2⟩
/-! ### argument lists, displays -/
theorem rdAX.ext {r : Res (List D)} {σ : Sg} {H G H1 G1 : Hp} {Q : List V → Hp → Prop} (x : Ext H G H1 G1) (q : rdAX X.K ea W r σ H G Q) : rdAX X.K ea W r σ H1 G1 Q := by
  cases r with
  | ok d => exact fun v H' G' x' k => q v H' G' (x.trans x') k
  | rs c => exact fun H' G' x' => q H' G' (x.trans x')
  | bad => exact q
theorem ea_nil : EA' X ea W [] anil := PA.imp pa_nil fun σ H Q ⟨ρ, G, ok, q⟩ => q [] H G (.refl ok.gh) .nil
theorem ea_cons {r : AX} (ha : EG X ea W a f) (hr : EA' X ea W es r) (hs : starEach (a :: es) X.env = (false, eval a X.env) :: starEach es X.env := by rfl) : EA' X ea W (a :: es) (acons f r) := by
  refine PA.imp (pa_cons ha hr hs) fun σ H Q ⟨ρ, G, ok, q⟩ => ?_
  unfold acons at q
  refine ⟨ρ, G, ok, ?_⟩
  cases r1 : f ρ with
  | bad => rw [r1] at q; exact q
  | rs c => rw [r1] at q; exact q
  | ok d =>
    rw [r1] at q
    intro v H1 G1 x1 m1
    have q1 := rdAX.ext x1 q
    simp only [ok_bind] at q1
    refine ⟨ρ, G1, ok.ext x1, ?_⟩
    cases r2 : r ρ with
    | bad => rw [r2] at q1; exact q1
    | rs c => rw [r2] at q1; exact q1
    | ok ds =>
      rw [r2] at q1
      intro vs H2 G2 x2 m2
      exact q1 _ H2 G2 x2 (.cons (m1.same x2.gg) m2)
/-- what an argument list tells, handed on -/
theorem rdAX.bind {m' : Mode} {r : Res (List D)} {k : List D → Res D} {σ : Sg} {H G : Hp} {Q : VK} {R : List V → Hp → Prop} (q : rdX ea W m' (r.bind k) σ H G Q)
    (h : ∀ ds vs H1 G1, Ext H G H1 G1 → Reps X.K G1 vs ds → rdX ea W m' (k ds) σ H G Q → R vs H1) : rdAX X.K ea W r σ H G R := by
  cases r with
  | ok d => exact fun v H' G' x k' => h d v H' G' x k' q
  | rs c => exact q
  | bad => exact q
theorem ef_tup {r : AX} {x1 : Nat} (h : EA' X ea W es r) : EF X ea W (.Tuple es x1 pos) (tupE r) := by
  refine PE.imp (pe_tupF h) fun σ H Q ⟨ρ, G, ok, q⟩ => ?_
  refine ⟨ρ, G, ok, rdAX.bind q fun ds vs H1 G1 x1 m1 q1 => ?_⟩
  have q2 := q1.extF x1
  split at q2
  · rename_i hz
    exact ⟨by rw [m1.1, ← line_eq]; exact hz, new_tup x1.gh m1 q2⟩
  · exact q2.elim
theorem ef_lst {r : AX} (h : EA' X ea W es r) : EF X ea W (.List es pos) (lstE r) := by
  refine PE.imp (pe_lst h) fun σ H Q ⟨ρ, G, ok, q⟩ => ?_
  refine ⟨ρ, G, ok, rdAX.bind q fun ds vs H1 G1 x1 m1 q1 => ?_⟩
  have q2 := q1.extF x1
  split at q2
  · rename_i hz
    exact ⟨by rw [m1.1, ← line_eq]; exact hz, new_lst x1.gh m1 q2⟩
  · exact q2.elim
end
end SR

set_option linter.all false
set_option autoImplicit false
set_option Elab.async false
set_option maxRecDepth 100000
set_option maxHeartbeats 1000000
/-! SRf: statements. -/
namespace SR
open PySem PySem.Spec PyProof.Rows L2 TL
/-- the state of a def that was entered at (H0, G0) -/
structure StOk (K : PySem.W.Frag) (H0 G0 : Hp) (ρ : SR.Env) (σ : Sg) (H G : Hp) : Prop where
  env : EnvOk K ρ σ H G
  ext : Ext H0 G0 H G
  new : ∀ (i : Nat) (p : Addr), isOwn ρ[i]? = true → σ[i]? = some (some (.ref p)) → H0 p = none
def rdSX (K : PySem.W.Frag) (ea : EA) (W : WX) (m : Mode) (o : Out) (H0 G0 G : Hp) (D : Ends) : Prop := match o with
  | .nx ρ => ∀ σ H' G', StOk K H0 G0 ρ σ H' G' → Same G G' → D.nx σ H'
  | .bk ρ => ∀ σ H' G', StOk K H0 G0 ρ σ H' G' → Same G G' → D.bk σ H'
  | .ct ρ => ∀ σ H' G', StOk K H0 G0 ρ σ H' G' → Same G G' → D.ct σ H'
  | .rt d => ∀ v H' G', Ext H0 G0 H' G' → m H0 H' G' v d → D.rt v H'
  | .rs c ρ => ∀ σ H' G', StOk K H0 G0 ρ σ H' G' → Same G G' → W (.ref (ea c)) none σ H'
  | .bad => False
def rdS (K : PySem.W.Frag) (ea : EA) (W : WX) (m : Mode) (f : SX) : TS := fun D σ H => ∃ ρ H0 G0 G, StOk K H0 G0 ρ σ H G ∧ rdSX K ea W m (f ρ) H0 G0 G D
def ES (X : Cx) (ea : EA) (W : WX) (m : Mode) (st : Stmt) (f : SX) : Prop := PS X st (rdS X.K ea W m f)
def ESs (X : Cx) (ea : EA) (W : WX) (m : Mode) (st : List Stmt) (f : SX) : Prop := PSs X st (rdS X.K ea W m f)
theorem PS.imp {X : Cx} {e : Stmt} {t t' : TS} (h : PS X e t) (k : ∀ D σ H, t' D σ H → t D σ H) : PS X e t' := ⟨fun pins s σ H Q I q => h.run pins s σ H Q I (k Q σ H q)⟩
theorem PSs.imp {X : Cx} {e : List Stmt} {t t' : TS} (h : PSs X e t) (k : ∀ D σ H, t' D σ H → t D σ H) : PSs X e t' := ⟨fun pins s σ H Q I q => h.run pins s σ H Q I (k Q σ H q)⟩
/-- how a returned value may be told -/
structure GoodM (K : PySem.W.Frag) (m : Mode) : Prop where
  base : ∀ H0 H H' G' v d, Same H0 H → m H H' G' v d → m H0 H' G' v d
  flat : ∀ H0 H' G' v d, Rep K G' v d → d.mut = false → m H0 H' G' v d
theorem goodG (K : PySem.W.Frag) : GoodM K (mG K) := ⟨fun _ _ _ _ _ _ _ h => h, fun _ _ _ _ _ h _ => h⟩
theorem goodF (K : PySem.W.Frag) : GoodM K (mF K) := ⟨fun _ _ _ _ _ _ s h => mF.mono s _ _ _ _ h, fun _ _ _ _ _ h m => .inl ⟨h, m⟩⟩
section
variable {K : PySem.W.Frag} {ea : EA} {W : WX} {m : Mode} {H0 G0 H G H' G' : Hp} {ρ ρ' : SR.Env} {σ σ' : Sg} {v : V} {d : D} {i : Nat}
theorem rdSX.same {o : Out} {D : Ends} (q : rdSX K ea W m o H0 G0 G D) (s : Same G G') : rdSX K ea W m o H0 G0 G' D := by
  cases o with
  | nx ρ => exact fun σ H1 G1 a b => q σ H1 G1 a (s.trans b)
  | bk ρ => exact fun σ H1 G1 a b => q σ H1 G1 a (s.trans b)
  | ct ρ => exact fun σ H1 G1 a b => q σ H1 G1 a (s.trans b)
  | rt d => exact q
  | rs c ρ => exact fun σ H1 G1 a b => q σ H1 G1 a (s.trans b)
  | bad => exact q
theorem StOk.extend (h : StOk K H0 G0 ρ σ H G) (x : Ext H G H' G') : StOk K H0 G0 ρ σ H' G' := ⟨h.env.ext x, h.ext.trans x, h.new⟩
theorem getSet_eq {α : Type} {l : List α} {i j : Nat} {a b : α} (h : (l.set i a)[j]? = some b) : (j = i ∧ b = a ∧ i < l.length) ∨ (j ≠ i ∧ l[j]? = some b) := by
  by_cases e : j = i
  · subst e
    by_cases hj : j < l.length
    · rw [List.getElem?_set_self hj] at h; cases h; exact .inl ⟨rfl, rfl, hj⟩
    · rw [List.getElem?_eq_none (by simpa using hj)] at h; cases h
  · rw [List.getElem?_set_ne (Ne.symm e)] at h; exact .inr ⟨e, h⟩
theorem own_of {o : Option Slot} (h : isOwn o = true) : ∃ d, o = some (.own d) := by
  cases o with
  | none => cases h
  | some s => cases s with
    | own d => exact ⟨d, rfl⟩
    | dead => cases h
    | pl d => cases h
/-- a slot takes a value of the ground -/
theorem EnvOk.setPl (h : EnvOk K ρ σ H G) (r : Rep K G v d) : EnvOk K (ρ.set i (.pl d)) (σ.set i (some v)) H G := by
  refine ⟨h.gh, by rw [List.length_set, List.length_set]; exact h.len, fun j s e => ?_, fun j k p ne h1 h2 e1 => ?_⟩
  · rcases getSet_eq e with ⟨rfl, rfl, hl⟩ | ⟨ne, e'⟩
    · exact ⟨v, List.getElem?_set_self (by rw [← h.len]; exact hl), r⟩
    · rw [List.getElem?_set_ne (Ne.symm ne)]
      exact h.sl j s e'
  · obtain ⟨dj, ej⟩ := own_of h1
    obtain ⟨dk, ek⟩ := own_of h2
    rcases getSet_eq ej with ⟨_, z, _⟩ | ⟨nj, ej⟩
    · cases z
    · rcases getSet_eq ek with ⟨_, z, _⟩ | ⟨nk, ek⟩
      · cases z
      · rw [List.getElem?_set_ne (Ne.symm nj)] at e1
        rw [List.getElem?_set_ne (Ne.symm nk)]
        exact h.ap j k p ne (by rw [ej]; rfl) (by rw [ek]; rfl) e1
theorem StOk.setPl (h : StOk K H0 G0 ρ σ H G) (r : Rep K G v d) : StOk K H0 G0 (ρ.set i (.pl d)) (σ.set i (some v)) H G := by
  refine ⟨h.env.setPl r, h.ext, fun j p e1 e2 => ?_⟩
  obtain ⟨dj, ej⟩ := own_of e1
  rcases getSet_eq ej with ⟨_, z, _⟩ | ⟨nj, ej⟩
  · cases z
  · rw [List.getElem?_set_ne (Ne.symm nj)] at e2
    exact h.new j p (by rw [ej]; rfl) e2
/-- a slot is forgotten -/
theorem EnvOk.setDead (h : EnvOk K ρ σ H G) {o : Option V} : EnvOk K (ρ.set i .dead) (σ.set i o) H G := by
  refine ⟨h.gh, by rw [List.length_set, List.length_set]; exact h.len, fun j s e => ?_, fun j k p ne h1 h2 e1 => ?_⟩
  · rcases getSet_eq e with ⟨rfl, rfl, hl⟩ | ⟨ne, e'⟩
    · trivial
    · rw [List.getElem?_set_ne (Ne.symm ne)]
      exact h.sl j s e'
  · obtain ⟨dj, ej⟩ := own_of h1
    obtain ⟨dk, ek⟩ := own_of h2
    rcases getSet_eq ej with ⟨_, z, _⟩ | ⟨nj, ej⟩
    · cases z
    · rcases getSet_eq ek with ⟨_, z, _⟩ | ⟨nk, ek⟩
      · cases z
      · rw [List.getElem?_set_ne (Ne.symm nj)] at e1
        rw [List.getElem?_set_ne (Ne.symm nk)]
        exact h.ap j k p ne (by rw [ej]; rfl) (by rw [ek]; rfl) e1
/-- a slot takes a new list or dict for its own -/
theorem StOk.setOwn {p : Addr} {H1 : Hp} (h : StOk K H0 G0 ρ σ H1 G) (hp : H1 p = none) (hx : Ext H1 G H' G') (g : G' p = none) (c : Cell K H' G' p d) : StOk K H0 G0 (ρ.set i (.own d)) (σ.set i (some (.ref p))) H' G' := by
  have h' := h.extend hx
  have notP : ∀ j, isOwn ρ[j]? = true → σ[j]? ≠ some (some (V.ref p)) := fun j hj e => by
    obtain ⟨dj, ej⟩ := own_of hj
    obtain ⟨q, a, _, cq⟩ := h.env.sl j _ ej
    rw [e] at a
    cases a
    exact mv_no hp cq.there
  refine ⟨⟨h'.env.gh, by rw [List.length_set, List.length_set]; exact h.env.len, fun j s e => ?_, fun j k q ne h1 h2 e1 => ?_⟩, h'.ext, fun j q e1 e2 => ?_⟩
  · rcases getSet_eq e with ⟨rfl, rfl, hl⟩ | ⟨ne, e'⟩
    · exact ⟨p, List.getElem?_set_self (by rw [← h.env.len]; exact hl), g, c⟩
    · rw [List.getElem?_set_ne (Ne.symm ne)]
      exact h'.env.sl j s e'
  · obtain ⟨dj, ej⟩ := own_of h1
    obtain ⟨dk, ek⟩ := own_of h2
    rcases getSet_eq ej with ⟨zj, _, lj⟩ | ⟨nj, ej'⟩
    · rw [zj, List.getElem?_set_self (by rw [← h.env.len]; exact lj)] at e1
      cases e1
      rcases getSet_eq ek with ⟨zk, _, _⟩ | ⟨nk, ek'⟩
      · exact absurd (zj.trans zk.symm) ne
      · rw [List.getElem?_set_ne (Ne.symm nk)]
        exact notP k (by rw [ek']; rfl)
    · rw [List.getElem?_set_ne (Ne.symm nj)] at e1
      rcases getSet_eq ek with ⟨zk, _, lk⟩ | ⟨nk, ek'⟩
      · rw [zk, List.getElem?_set_self (by rw [← h.env.len]; exact lk)]
        intro z
        cases z
        exact notP j (by rw [ej']; rfl) e1
      · rw [List.getElem?_set_ne (Ne.symm nk)]
        exact h.env.ap j k q ne (by rw [ej']; rfl) (by rw [ek']; rfl) e1
  · obtain ⟨dj, ej⟩ := own_of e1
    rcases getSet_eq ej with ⟨rfl, _, lj⟩ | ⟨nj, ej⟩
    · rw [List.getElem?_set_self (by rw [← h.env.len]; exact lj)] at e2
      cases e2
      exact same_none h.ext.hh hp
    · rw [List.getElem?_set_ne (Ne.symm nj)] at e2
      exact h.new j q (by rw [ej]; rfl) e2
/-- a list or dict of one's own is changed -/
theorem StOk.write {p : Addr} {o : HO} {d' : D} (h : StOk K H0 G0 ρ σ H G) (hi : ρ[i]? = some (.own d)) (hs : σ[i]? = some (some (.ref p))) (c : Cell K (upd H p o) G p d') : StOk K H0 G0 (ρ.set i (.own d')) σ (upd H p o) G := by
  obtain ⟨p', a, g, c0⟩ := h.env.sl i _ hi
  rw [hs] at a
  cases a
  have h0 : H0 p = none := h.new i p (by rw [hi]; rfl) hs
  have gne : ∀ a o, G a = some o → a ≠ p := fun a o e z => by subst z; rw [g] at e; cases e
  refine ⟨⟨fun a o' e => by rw [upd_ne (gne a _ e)]; exact h.env.gh a o' e, by rw [List.length_set]; exact h.env.len, fun j s e => ?_, fun j k q ne h1 h2 e1 => ?_⟩, ⟨fun a o' e => ?_, h.ext.gg, fun a o' e => by rw [upd_ne (gne a _ e)]; exact h.env.gh a o' e, h.ext.out⟩, fun j q e1 e2 => ?_⟩
  · rcases getSet_eq e with ⟨rfl, rfl, hl⟩ | ⟨ne, e'⟩
    · exact ⟨p, hs, g, c⟩
    · have q := h.env.sl j s e'
      cases s with
      | dead => trivial
      | pl d => exact q
      | own dd =>
        obtain ⟨p2, a2, g2, c2⟩ := q
        have np : p2 ≠ p := fun z => by
          subst z
          exact h.env.ap j i p2 ne (by rw [e']; rfl) (by rw [hi]; rfl) a2 hs
        refine ⟨p2, a2, g2, ?_⟩
        cases c2 with
        | lst x y => exact .lst (by rw [upd_ne np]; exact x) y
        | dk x y => exact .dk (by rw [upd_ne np]; exact x) y
        | dt x y => exact .dt (by rw [upd_ne np]; exact x) y
  · have own' : ∀ j, isOwn (ρ.set i (.own d'))[j]? = true → isOwn ρ[j]? = true := fun j hj => by
      obtain ⟨dj, ej⟩ := own_of hj
      rcases getSet_eq ej with ⟨zj, _, _⟩ | ⟨nj, ej'⟩
      · rw [zj, hi]; rfl
      · rw [ej']; rfl
    exact h.env.ap j k q ne (own' j h1) (own' k h2) e1
  · have ne : a ≠ p := fun z => by subst z; rw [h0] at e; cases e
    rw [upd_ne ne]
    exact h.ext.hh a o' e
  · obtain ⟨dj, ej⟩ := own_of e1
    rcases getSet_eq ej with ⟨zj, _, _⟩ | ⟨nj, ej'⟩
    · exact h.new j q (by rw [zj, hi]; rfl) e2
    · exact h.new j q (by rw [ej']; rfl) e2
/-- one's own list goes into the ground; a dict, once it is locked for good -/
theorem StOk.toGz {p : Addr} (h : StOk K H0 G0 ρ σ H G) (hi : ρ[i]? = some (.own d)) (hs : σ[i]? = some (some (.ref p))) :
    (∃ G', Same G G' ∧ StOk K H0 G0 (ρ.set i .dead) (σ.set i (some (.ref p))) H G' ∧ Rep K G' (.ref p) d) ∨
    ∃ u, H p = some u ∧ Mut (some u) ∧ ∀ od, ∃ G', Same G G' ∧ StOk K H0 G0 (ρ.set i .dead) (σ.set i (some (.ref p))) (upd H p (.frz od u)) G' ∧ Rep K G' (.ref p) d := by
  obtain ⟨p', a, g, c0⟩ := h.env.sl i _ hi
  rw [hs] at a
  cases a
  have h0 : H0 p = none := h.new i p (by rw [hi]; rfl) hs
  have go : ∀ o, Same G (upd G p o) ∧ StOk K H0 G0 (ρ.set i .dead) (σ.set i (some (.ref p))) (upd H p o) (upd G p o) := fun o => by
    have sg : Same G (upd G p o) := same_updN g
    have gne : ∀ a o, G a = some o → a ≠ p := fun a o e z => by subst z; rw [g] at e; cases e
    have gh : Same (upd G p o) (upd H p o) := fun a o' e => by
      by_cases z : a = p
      · subst z; rw [upd_same] at e ⊢; exact e
      · rw [upd_ne z] at e ⊢; exact h.env.gh a o' e
    have hd := h.env.setDead (i := i) (o := some (.ref p))
    refine ⟨sg, ⟨gh, hd.len, fun j s e => ?_, hd.ap⟩, ⟨fun a o' e => ?_, h.ext.gg.trans sg, gh, fun a e1 e2 => ?_⟩, fun j q e1 e2 => ?_⟩
    · have q := hd.sl j s e
      cases s with
      | dead => trivial
      | pl dd =>
        obtain ⟨v, a, r⟩ := q
        exact ⟨v, a, r.same sg⟩
      | own dd =>
        obtain ⟨p2, a2, g2, c2⟩ := q
        have np : p2 ≠ p := fun z => by
          subst z
          rcases getSet_eq e with ⟨_, z, _⟩ | ⟨nj, ej⟩
          · cases z
          · rw [List.getElem?_set_ne (Ne.symm nj)] at a2
            exact h.env.ap j i p2 nj (by rw [ej]; rfl) (by rw [hi]; rfl) a2 hs
        refine ⟨p2, a2, by rw [upd_ne np]; exact g2, ?_⟩
        cases c2 with
        | lst x y => exact .lst (by rw [upd_ne np]; exact x) (y.same sg)
        | dk x y => exact .dk (by rw [upd_ne np]; exact x) (y.same sg)
        | dt x y => exact .dt (by rw [upd_ne np]; exact x) (y.same sg)
    · have ne : a ≠ p := fun z => by subst z; rw [h0] at e; cases e
      rw [upd_ne ne]
      exact h.ext.hh a o' e
    · rw [upd_ne (fun z => by subst z; exact mv_no h0 e1)]
      exact h.ext.out a e1 e2
    · obtain ⟨dj, ej⟩ := own_of e1
      rcases getSet_eq ej with ⟨_, z, _⟩ | ⟨nj, ej⟩
      · cases z
      · rw [List.getElem?_set_ne (Ne.symm nj)] at e2
        exact h.new j q (by rw [ej]; rfl) e2
  have upself : ∀ {o : HO}, H p = some o → upd H p o = H := fun {o} e => by
    funext b
    by_cases z : b = p
    · subst z; rw [upd_same, e]
    · rw [upd_ne z]
  cases c0 with
  | lst x y =>
    rename_i vs xs
    have k := go (.lst vs)
    rw [upself x] at k
    exact .inl ⟨_, k.1, k.2, .lstI upd_same (y.same k.1)⟩
  | dk x y =>
    rename_i kvs ds
    refine .inr ⟨_, x, trivial, fun od => ⟨_, (go (.frz od _)).1, (go (.frz od _)).2, ?_⟩⟩
    have b' := y.same (go (.frz od (.dK kvs))).1
    exact .dk upd_same b'.1 (fun i p q e1 e2 => (b'.2 i p q e1 e2).1) fun i p q e1 e2 => (b'.2 i p q e1 e2).2
  | dt x y =>
    rename_i kvs ds
    refine .inr ⟨_, x, trivial, fun od => ⟨_, (go (.frz od _)).1, (go (.frz od _)).2, ?_⟩⟩
    have b' := y.same (go (.frz od (.dT kvs))).1
    exact .dt upd_same b'.1 (fun i p q e1 e2 => (b'.2 i p q e1 e2).1) fun i p q e1 e2 => (b'.2 i p q e1 e2).2
/-- an expression within a statement -/
theorem ofE_rd {r : Res D} {k : D → Out} {D0 : Ends} {R : VK} {m1 : Mode} (h : StOk K H0 G0 ρ σ H G) (q : rdSX K ea W m (ofE r ρ k) H0 G0 G D0)
    (go : ∀ d v H1 G1, Ext H G H1 G1 → m1 H H1 G1 v d → rdSX K ea W m (k d) H0 G0 G D0 → R v H1) : rdX ea W m1 r σ H G R := by
  cases r with
  | ok d => exact fun v H1 G1 x m1 => go d v H1 G1 x m1 q
  | rs c => exact fun H1 G1 x => q σ H1 G1 (h.extend x) x.gg
  | bad => exact q
end
section
variable {X : Cx} {ea : EA} {W : WX} {m : Mode} {st : Stmt} {rest body orelse : List Stmt} {e : Expr} {f g : EX} {s t : SX} {c : TX} {pos pos' : Pos} {i j : Nat} {x y : Str}
theorem ess_nil : ESs X ea W m [] sNx := PSs.imp pss_nil fun D σ H ⟨ρ, H0, G0, G, ok, q⟩ => q σ H G ok (Same.refl _)
theorem rdS_seq {D : Ends} {σ : Sg} {H : Hp} (h : rdS X.K ea W m (sSeq s t) D σ H) : tSeq (rdS X.K ea W m s) (rdS X.K ea W m t) D σ H := by
  obtain ⟨ρ, H0, G0, G, ok, q⟩ := h
  refine ⟨ρ, H0, G0, G, ok, ?_⟩
  unfold sSeq at q
  cases r : s ρ with
  | nx ρ' => rw [r] at q; exact fun σ' H' G' ok' sm => ⟨ρ', H0, G0, G', ok', q.same sm⟩
  | rt d => rw [r] at q; exact q
  | bk ρ' => rw [r] at q; exact q
  | ct ρ' => rw [r] at q; exact q
  | rs c ρ' => rw [r] at q; exact q
  | bad => rw [r] at q; exact q
theorem ess_cons (h1 : ES X ea W m st s) (h2 : ESs X ea W m rest t) : ESs X ea W m (st :: rest) (sSeq s t) := PSs.imp (pss_cons h1 h2) fun D σ H h => rdS_seq h
theorem ess_one (h1 : ES X ea W m st s) : ESs X ea W m [st] s := pss_one h1
theorem es_pass : ES X ea W m (.Pass pos) sNx := PS.imp ps_pass fun D σ H ⟨ρ, H0, G0, G, ok, q⟩ => q σ H G ok (Same.refl _)
/-- x = e -/
theorem rd_asg {D : Ends} {σ : Sg} {H : Hp} (h : rdS X.K ea W m (sSet i f) D σ H) : tAsg (rd X.K ea W (mG X.K) f) (gName i) D σ H := by
  obtain ⟨ρ, H0, G0, G, ok, q⟩ := h
  exact ⟨ρ, G, ok.env, ofE_rd ok q fun d v H1 G1 x m1 q1 => q1 _ H1 G1 ((ok.extend x).setPl m1) x.gg⟩
theorem es_set (hN : X.N.Nodup) (hi : X.N[i]? = some x) (hx : Loc X.env.scope x) (he : EG X ea W e f) (hs : swapsWith e (some (.Name x pos')) pos.line X.env = pure false := by rfl) (hf : X.fn x = true ∨ X.env.scope.names.lookup x = some .local := by first | exact .inl rfl | exact .inr rfl | assumption) :
    ES X ea W m (.Assign [.Name x pos'] e pos) (sSet i f) := PS.imp (ps_set hN hi hx he hs hf) fun D σ H h => rd_asg h
/-- x = a new list or dict, to be changed -/
theorem rd_own {D : Ends} {σ : Sg} {H : Hp} (h : rdS X.K ea W m (sOwn i f) D σ H) : tAsg (rd X.K ea W (mF X.K) f) (gName i) D σ H := by
  obtain ⟨ρ, H0, G0, G, ok, q⟩ := h
  refine ⟨ρ, G, ok.env, ofE_rd ok q fun d v H1 G1 x m1 q1 => ?_⟩
  rcases m1 with ⟨r, mu⟩ | ⟨p, rfl, hp, g, cc⟩
  · split at q1
    · cases mu
    · cases mu
    · exact q1 _ H1 G1 ((ok.extend x).setPl r) x.gg
  · have key := ok.setOwn (i := i) hp x g cc
    cases cc <;> exact q1 _ H1 G1 key x.gg
theorem es_own (hN : X.N.Nodup) (hi : X.N[i]? = some x) (hx : Loc X.env.scope x) (he : EF X ea W e f) (hs : swapsWith e (some (.Name x pos')) pos.line X.env = pure false := by rfl) (hf : X.fn x = true ∨ X.env.scope.names.lookup x = some .local := by first | exact .inl rfl | exact .inr rfl | assumption) :
    ES X ea W m (.Assign [.Name x pos'] e pos) (sOwn i f) := PS.imp (ps_set hN hi hx he hs hf) fun D σ H h => rd_own h
/-- x = y -/
theorem es_mv (hN : X.N.Nodup) (hi : X.N[i]? = some x) (hx : Loc X.env.scope x) (hj : X.N[j]? = some y) (hy : Vis X.env.scope y) {py : Pos} (hd : (y == ("__debug__" : Str)) = false := by decide) (hcd : (y == ("__classdict__" : Str)) = false := by decide)
    (hf : X.fn x = true ∨ X.env.scope.names.lookup x = some .local := by first | exact .inl rfl | exact .inr rfl | assumption) :
    ES X ea W m (.Assign [.Name x pos'] (.Name y py) pos) (sMv i j) := PS.imp (ps_set hN hi hx (pe_frz (pe_var hj hy hd hcd)) rfl hf) fun D σ H ⟨ρ, H0, G0, G, ok, q⟩ => by
  unfold sMv at q
  cases r : ρ[j]? with
  | none => rw [r] at q; exact q.elim
  | some s =>
    rw [r] at q
    cases s with
    | dead => exact q.elim
    | pl d =>
      obtain ⟨v, hs, rv⟩ := ok.env.sl j _ r
      exact ⟨v, hs, .inl (q _ H G (ok.setPl rv) (Same.refl _))⟩
    | own d =>
      obtain ⟨p, hs, g, cc⟩ := ok.env.sl j _ r
      have e : σ.set j (some (V.ref p)) = σ := by
        apply List.ext_getElem?
        intro k
        by_cases hk : j = k
        · subst hk
          rw [List.getElem?_set_self (List.getElem?_eq_some_iff.mp hs).1, hs]
        · rw [List.getElem?_set_ne hk]
      rcases ok.toGz r hs with ⟨G', sm, ok', rv⟩ | ⟨u, hp, mu, k⟩
      · refine ⟨_, hs, .inl (q _ H G' ?_ sm)⟩
        rw [e] at ok'
        exact ok'.setPl rv
      · refine ⟨_, hs, .inr ⟨p, u, rfl, hp, mu, fun od => ?_⟩⟩
        obtain ⟨G', sm, ok', rv⟩ := k od
        rw [e] at ok'
        exact q _ _ G' (ok'.setPl rv) sm
/-- an expression whose value is dropped -/
theorem es_exp (he : EG X ea W e f) (hs : swapsWith e none pos.line X.env = pure false := by rfl) : ES X ea W m (.Expr e pos) (sExp f) := PS.imp (ps_expr he hs) fun D σ H ⟨ρ, H0, G0, G, ok, q⟩ =>
  ⟨ρ, G, ok.env, ofE_rd ok q fun d v H1 G1 x m1 q1 => q1 σ H1 G1 (ok.extend x) x.gg⟩
theorem es_ret (he : EG X ea W e f) : ES X ea W (mG X.K) (.Return (some e) pos) (sRet f) := PS.imp (ps_ret he) fun D σ H ⟨ρ, H0, G0, G, ok, q⟩ =>
  ⟨ρ, G, ok.env, ofE_rd ok q fun d v H1 G1 x m1 q1 => q1 v H1 G1 (ok.ext.trans x) m1⟩
theorem es_retF (he : EF X ea W e f) : ES X ea W (mF X.K) (.Return (some e) pos) (sRet f) := PS.imp (ps_ret he) fun D σ H ⟨ρ, H0, G0, G, ok, q⟩ =>
  ⟨ρ, G, ok.env, ofE_rd ok q fun d v H1 G1 x m1 q1 => q1 v H1 G1 (ok.ext.trans x) (mF.mono ok.ext.hh _ _ _ _ m1)⟩
theorem es_retN (gm : GoodM X.K m) : ES X ea W m (.Return none pos) sRetN := PS.imp ps_retN fun D σ H ⟨ρ, H0, G0, G, ok, q⟩ => q .non H G ok.ext (gm.flat _ _ _ _ _ .non rfl)
theorem es_retV {py : Pos} (hN : X.N[i]? = some x) (hv : Vis X.env.scope x) (hd : (x == ("__debug__" : Str)) = false := by decide) (hcd : (x == ("__classdict__" : Str)) = false := by decide) : ES X ea W (mG X.K) (.Return (some (.Name x py)) pos) (sRetV i) := PS.imp (ps_ret (pe_frz (pe_var hN hv hd hcd))) fun D σ H ⟨ρ, H0, G0, G, ok, q⟩ => by
  unfold sRetV at q
  cases r : ρ[i]? with
  | none => rw [r] at q; exact q.elim
  | some s =>
    rw [r] at q
    cases s with
    | dead => exact q.elim
    | pl d =>
      obtain ⟨v, hs, rv⟩ := ok.env.sl i _ r
      exact ⟨v, hs, .inl (q v H G ok.ext rv)⟩
    | own d =>
      obtain ⟨p, hs, g, cc⟩ := ok.env.sl i _ r
      rcases ok.toGz r hs with ⟨G', sm, ok', rv⟩ | ⟨u, hp, mu, k⟩
      · exact ⟨_, hs, .inl (q _ H G' ok'.ext rv)⟩
      · refine ⟨_, hs, .inr ⟨p, u, rfl, hp, mu, fun od => ?_⟩⟩
        obtain ⟨G', sm, ok', rv⟩ := k od
        exact q _ _ G' ok'.ext rv
theorem es_retVF {py : Pos} (hN : X.N[i]? = some x) (hv : Vis X.env.scope x) (hd : (x == ("__debug__" : Str)) = false := by decide) (hcd : (x == ("__classdict__" : Str)) = false := by decide) : ES X ea W (mF X.K) (.Return (some (.Name x py)) pos) (sRetF i) := PS.imp (ps_ret (pe_var hN hv hd hcd)) fun D σ H ⟨ρ, H0, G0, G, ok, q⟩ => by
  unfold sRetF at q
  cases r : ρ[i]? with
  | none => rw [r] at q; exact q.elim
  | some s =>
    rw [r] at q
    cases s with
    | dead => exact q.elim
    | pl d =>
      obtain ⟨v, hs, rv⟩ := ok.env.sl i _ r
      simp only at q
      split at q
      · exact q.elim
      · rename_i hm
        exact ⟨v, hs, q v H G ok.ext (.inl ⟨rv, by simpa using hm⟩)⟩
    | own d =>
      obtain ⟨p, hs, g, cc⟩ := ok.env.sl i _ r
      exact ⟨_, hs, q _ H G ok.ext (.inr ⟨p, rfl, ok.new i p (by rw [r]; rfl) hs, g, cc⟩)⟩
theorem es_if {cnd : Expr} (hc : ET X ea W cnd c) (ha : ESs X ea W m body s) (hb : ESs X ea W m orelse t) : ES X ea W m (.If cnd body orelse pos) (sIf c s t) := PS.imp (ps_if hc ha hb) fun D σ H ⟨ρ, H0, G0, G, ok, q⟩ => by
  refine ⟨ρ, G, ok.env, ?_⟩
  unfold sIf at q
  cases r : c ρ with
  | bad => rw [r] at q; exact q
  | rs e => rw [r] at q; exact fun H1 G1 x => q σ H1 G1 (ok.extend x) x.gg
  | ok b =>
    rw [r] at q
    intro H1 G1 x
    cases b with
    | true => rw [if_pos rfl]; exact ⟨ρ, H0, G0, G1, ok.extend x, q.same x.gg⟩
    | false => rw [if_neg Bool.false_ne_true]; exact ⟨ρ, H0, G0, G1, ok.extend x, q.same x.gg⟩
theorem es_brk : ES X ea W m (.Break pos) sBrk := PS.imp ps_break fun D σ H ⟨ρ, H0, G0, G, ok, q⟩ => q σ H G ok (Same.refl _)
theorem es_cnt : ES X ea W m (.Continue pos) sCnt := PS.imp ps_continue fun D σ H ⟨ρ, H0, G0, G, ok, q⟩ => q σ H G ok (Same.refl _)
/-- while c: body -/
theorem es_while {cnd : Expr} {n : Nat} (hp : PassesOwn (model X.prog X.w) X.A X.env X.xe) (hc : ET X ea W cnd c) (hb : ESs X ea W m body s) : ES X ea W m (.While cnd body [] pos) (sWhile n c s) := PS.imp (ps_while hp hc hb) fun D σ H ⟨ρ, H0, G0, G, ok, q⟩ => by
  refine ⟨fun k σ H => ∃ ρ G1, StOk X.K H0 G0 ρ σ H G1 ∧ rdSX X.K ea W m (whileL c s k ρ) H0 G0 G1 D, ⟨n, ρ, G, ok, q⟩, fun k σ H ⟨ρ, G, ok, q⟩ => ⟨ρ, G, ok.env, ?_⟩⟩
  cases k with
  | zero => exact q.elim
  | succ k =>
    unfold whileL at q
    cases r : c ρ with
    | bad => rw [r] at q; exact q
    | rs e => rw [r] at q; exact fun H1 G1 x => q σ H1 G1 (ok.extend x) x.gg
    | ok b =>
      rw [r] at q
      intro H1 G1 x
      cases b with
      | false => rw [if_neg Bool.false_ne_true]; exact q σ H1 G1 (ok.extend x) x.gg
      | true =>
        rw [if_pos rfl]
        refine ⟨fun σ' H' => ∃ ρ' G', StOk X.K H0 G0 ρ' σ' H' G' ∧ rdSX X.K ea W m (whileL c s k ρ') H0 G0 G' D, fun σ' H' h => ⟨k, Nat.lt_succ_self _, h⟩, ρ, H0, G0, G1, ok.extend x, ?_⟩
        simp only at q
        have q := q.same x.gg
        cases r2 : s ρ with
        | nx ρ' => rw [r2] at q; exact fun σ' H' G' ok' sm => ⟨ρ', G', ok', q.same sm⟩
        | ct ρ' => rw [r2] at q; exact fun σ' H' G' ok' sm => ⟨ρ', G', ok', q.same sm⟩
        | bk ρ' => rw [r2] at q; exact q
        | rt d => rw [r2] at q; exact q
        | rs e ρ' => rw [r2] at q; exact q
        | bad => rw [r2] at q; exact q
end
end SR

set_option linter.all false
set_option autoImplicit false
set_option Elab.async false
set_option maxRecDepth 100000
set_option maxHeartbeats 1000000
/-! SRg: lists changed, targets, what is walked, for, comprehensions. -/
namespace SR
open PySem PySem.Spec PyProof.Rows L2 TL RZ
section
variable {X : Cx} {ea : EA} {W : WX} {m : Mode} {st : Stmt} {rest body orelse : List Stmt} {e a b : Expr} {f g : EX} {s t : SX} {c : TX} {pos pos' apos cpos : Pos} {i j : Nat} {x y : Str}
/-! ### lists changed -/
theorem es_app {px : Pos} (hN : X.N[i]? = some x) (hv : Vis X.env.scope x) (he : EG X ea W e f) (hd : (x == ("__debug__" : Str)) = false := by decide) (hcd : (x == ("__classdict__" : Str)) = false := by decide)
    (hfew : ((backTo cpos (starEach (e :: []) X.env)).all (fun x => !x.1) && (backToKw cpos (keywordEach [] X.env)).all (fun x => x.1.isSome)
      && decide ((e :: ([] : List Expr)).length + ([] : List Keyword).length + (if ([] : List Keyword).isEmpty then 0 else 1) < 30)) = true := by rfl)
    (hline : (apos.endLine == cpos.line) = true := by rfl) (hs : starEach (e :: []) X.env = (false, eval e X.env) :: starEach [] X.env := by rfl) :
    ES X ea W m (.Expr (.Call (.Attribute (.Name x px) "append" apos) [e] [] cpos) pos) (sApp i f) :=
  PS.imp (ps_expr (pe_bm PySem.F.plainAttrs_list PySem.F.slot_list_append PySem.F.type_list_append mt_append (pe_var hN hv hd hcd) (pa_cons he pa_nil hs) rfl hfew hline hs rfl) rfl) fun D σ H ⟨ρ, H0, G0, G, ok, q⟩ => by
    unfold sApp at q
    split at q
    · rename_i xs r
      obtain ⟨p, hs, gp, cc⟩ := ok.env.sl i _ r
      cases cc with | lst hp rr =>
      refine ⟨_, hs, .inl ⟨rfl, _, .inl (.inl hp)⟩, ρ, G, ok.env, ofE_rd ok q fun d v H1 G1 x1 m1 q1 => ?_⟩
      split at q1
      · rename_i hl
        have ok1 := ok.extend x1
        have hp1 := x1.hh _ _ hp
        refine ⟨p, _, v, rfl, rfl, hp1, by rw [rr.1, ← line_eq]; exact hl, q1 _ _ G1 (ok1.write r hs (.lst upd_same ((rr.same x1.gg).append (.cons m1 .nil)))) x1.gg⟩
      · exact q1.elim
    · exact q.elim
theorem es_ext {px : Pos} (hN : X.N[i]? = some x) (hv : Vis X.env.scope x) (he : EG X ea W e f) (hd : (x == ("__debug__" : Str)) = false := by decide) (hcd : (x == ("__classdict__" : Str)) = false := by decide)
    (hfew : ((backTo cpos (starEach (e :: []) X.env)).all (fun x => !x.1) && (backToKw cpos (keywordEach [] X.env)).all (fun x => x.1.isSome)
      && decide ((e :: ([] : List Expr)).length + ([] : List Keyword).length + (if ([] : List Keyword).isEmpty then 0 else 1) < 30)) = true := by rfl)
    (hline : (apos.endLine == cpos.line) = true := by rfl) (hs : starEach (e :: []) X.env = (false, eval e X.env) :: starEach [] X.env := by rfl) :
    ES X ea W m (.Expr (.Call (.Attribute (.Name x px) "extend" apos) [e] [] cpos) pos) (sExt i f) :=
  PS.imp (ps_expr (pe_bm PySem.F.plainAttrs_list PySem.F.slot_list_extend PySem.F.type_list_extend mt_extend (pe_var hN hv hd hcd) (pa_cons he pa_nil hs) rfl hfew hline hs rfl) rfl) fun D σ H ⟨ρ, H0, G0, G, ok, q⟩ => by
    unfold sExt at q
    split at q
    · rename_i xs r
      obtain ⟨p, hs, gp, cc⟩ := ok.env.sl i _ r
      cases cc with | lst hp rr =>
      refine ⟨_, hs, .inl ⟨rfl, _, .inl (.inl hp)⟩, ρ, G, ok.env, ofE_rd ok q fun d v H1 G1 x1 m1 q1 => ?_⟩
      split at q1
      · split at q1
        · rename_i ys hl
          have ok1 := ok.extend x1
          have hp1 := x1.hh _ _ hp
          obtain ⟨b, ws, rfl, hb, rb⟩ := Rep.lst' m1
          refine ⟨p, b, _, ws, rfl, rfl, hp1, x1.gh _ _ hb, by rw [rr.1, rb.1, ← line_eq]; exact hl, q1 _ _ G1 (ok1.write r hs (.lst upd_same ((rr.same x1.gg).append rb))) x1.gg⟩
        · exact q1.elim
      · exact q1.elim
    · exact q.elim
theorem es_pop {px py : Pos} (hN : X.N.Nodup) (hj : X.N[j]? = some y) (hy : Loc X.env.scope y) (hi : X.N[i]? = some x) (hv : Vis X.env.scope x) (hd : (x == ("__debug__" : Str)) = false := by decide) (hcd : (x == ("__classdict__" : Str)) = false := by decide)
    (hline : (apos.endLine == cpos.line) = true := by rfl) (hf : X.fn y = true ∨ X.env.scope.names.lookup y = some .local := by first | exact .inl rfl | exact .inr rfl | assumption) :
    ES X ea W m (.Assign [.Name y py] (.Call (.Attribute (.Name x px) "pop" apos) [] [] cpos) pos) (sPop j i) :=
  PS.imp (ps_set hN hj hy (pe_bm0 PySem.F.plainAttrs_list PySem.F.slot_list_pop PySem.F.type_list_pop mt_pop (pe_var hi hv hd hcd) rfl hline) rfl hf) fun D σ H ⟨ρ, H0, G0, G, ok, q⟩ => by
    unfold sPop at q
    split at q
    · rename_i xs r
      obtain ⟨p, hs, gp, cc⟩ := ok.env.sl i _ r
      cases cc with | lst hp rr =>
      rename_i vs
      split at q
      · rename_i d hl
        obtain ⟨v, hv', rv⟩ := rr.get hl
        refine ⟨_, hs, .inl ⟨rfl, _, .inl (.inl hp)⟩, p, vs, v, rfl, rfl, hp, by rw [rr.1]; exact hv', q _ _ G ((ok.write r hs (.lst upd_same ?_)).setPl rv) (Same.refl _)⟩
        have : Reps X.K G vs.dropLast xs.dropLast := by
          rw [List.dropLast_eq_take, List.dropLast_eq_take, rr.1]
          exact rr.take _
        exact this
      · exact q.elim
    · exact q.elim
/-! dicts changed -/
theorem repK_put {K : PySem.W.Frag} {G : Hp} {kvs : List (Key × V)} {ds : List (D × D)} {k : Key} {v : V} {d : D} (r : RepK K G kvs ds) (rv : Rep K G v d) : RepK K G (putK kvs k v) (putD ds (keyD k) d) := by
  have key : ∀ {kvs : List (Key × V)} {ds : List (D × D)}, RepK K G kvs ds → (kvs.any fun kv => decide (kv.1 = k)) = (ds.any fun p => D.eq p.1 (keyD k)) := by
    intro kvs
    induction kvs with
    | nil =>
      intro ds r
      cases ds with
      | nil => rfl
      | cons q ds => exact absurd r.1 (by simp)
    | cons p kvs ih =>
      intro ds r
      cases ds with
      | nil => exact absurd r.1 (by simp)
      | cons q ds =>
        rw [List.any_cons, List.any_cons, ih ⟨by simpa using r.1, fun i p q a b => r.2 (i + 1) p q (by simpa using a) (by simpa using b)⟩, (r.2 0 p q rfl rfl).1, keyD_eq]
  unfold putK putD
  rw [key r]
  by_cases h : (ds.any fun p => D.eq p.1 (keyD k)) = true
  · rw [if_pos h, if_pos h]
    refine ⟨by simp [r.1], fun i p q a b => ?_⟩
    rw [List.getElem?_map] at a b
    obtain ⟨p', a', rfl⟩ := Option.map_eq_some_iff.mp a
    obtain ⟨q', b', rfl⟩ := Option.map_eq_some_iff.mp b
    obtain ⟨e1, e2⟩ := r.2 i p' q' a' b'
    rw [e1, keyD_eq]
    by_cases hk : p'.1 = k
    · rw [if_pos hk, decide_eq_true hk, if_pos rfl]; exact ⟨rfl, rv⟩
    · rw [if_neg hk, decide_eq_false hk, if_neg Bool.false_ne_true]; exact ⟨e1, e2⟩
  · rw [if_neg h, if_neg h]
    refine ⟨by simp [r.1], fun i p q a b => ?_⟩
    by_cases hi : i < kvs.length
    · rw [List.getElem?_append_left hi] at a
      rw [List.getElem?_append_left (by rw [← r.1]; exact hi)] at b
      exact r.2 i p q a b
    · rw [List.getElem?_append_right (by omega)] at a
      rw [List.getElem?_append_right (by rw [← r.1]; omega), ← r.1] at b
      cases hz : i - kvs.length with
      | zero => rw [hz] at a b; simp at a b; subst a; subst b; exact ⟨rfl, rv⟩
      | succ n => rw [hz] at a; simp at a
theorem repT_put {K : PySem.W.Frag} {G : Hp} {kvs : List (List Key × V)} {ds : List (D × D)} {k : List Key} {v : V} {d : D} (r : RepT K G kvs ds) (rv : Rep K G v d) : RepT K G (putK kvs k v) (putD ds (.tup (k.map keyD)) d) := by
  have key : ∀ {kvs : List (List Key × V)} {ds : List (D × D)}, RepT K G kvs ds → (kvs.any fun kv => decide (kv.1 = k)) = (ds.any fun p => D.eq p.1 (.tup (k.map keyD))) := by
    intro kvs
    induction kvs with
    | nil =>
      intro ds r
      cases ds with
      | nil => rfl
      | cons q ds => exact absurd r.1 (by simp)
    | cons p kvs ih =>
      intro ds r
      cases ds with
      | nil => exact absurd r.1 (by simp)
      | cons q ds =>
        rw [List.any_cons, List.any_cons, ih ⟨by simpa using r.1, fun i p q a b => r.2 (i + 1) p q (by simpa using a) (by simpa using b)⟩, (r.2 0 p q rfl rfl).1, keyT_eq]
  unfold putK putD
  rw [key r]
  by_cases h : (ds.any fun p => D.eq p.1 (.tup (k.map keyD))) = true
  · rw [if_pos h, if_pos h]
    refine ⟨by simp [r.1], fun i p q a b => ?_⟩
    rw [List.getElem?_map] at a b
    obtain ⟨p', a', rfl⟩ := Option.map_eq_some_iff.mp a
    obtain ⟨q', b', rfl⟩ := Option.map_eq_some_iff.mp b
    obtain ⟨e1, e2⟩ := r.2 i p' q' a' b'
    rw [e1, keyT_eq]
    by_cases hk : p'.1 = k
    · rw [if_pos hk, decide_eq_true hk, if_pos rfl]; exact ⟨rfl, rv⟩
    · rw [if_neg hk, decide_eq_false hk, if_neg Bool.false_ne_true]; exact ⟨e1, e2⟩
  · rw [if_neg h, if_neg h]
    refine ⟨by simp [r.1], fun i p q a b => ?_⟩
    by_cases hi : i < kvs.length
    · rw [List.getElem?_append_left hi] at a
      rw [List.getElem?_append_left (by rw [← r.1]; exact hi)] at b
      exact r.2 i p q a b
    · rw [List.getElem?_append_right (by omega)] at a
      rw [List.getElem?_append_right (by rw [← r.1]; omega), ← r.1] at b
      cases hz : i - kvs.length with
      | zero => rw [hz] at a b; simp at a b; subst a; subst b; exact ⟨rfl, rv⟩
      | succ n => rw [hz] at a; simp at a
theorem pset_or {t t' : TSet} (h : PSet X t) (h' : PSet X t') : PSet X (fun o i v H Q => t o i v H Q ∨ t' o i v H Q) := by
  intro pins s σ H o i v ov iv u Q I ro ri rv q
  rcases q with q | q
  · exact h pins s σ H o i v ov iv u Q I ro ri rv q
  · exact h' pins s σ H o i v ov iv u Q I ro ri rv q
theorem es_put {k : Expr} {px ps : Pos} (hu : X.A.units + 1 < cLine) (hN : X.N[i]? = some x) (hv : Vis X.env.scope x) (hk : EB X ea W k g) (he : EG X ea W e f) (hd : (x == ("__debug__" : Str)) = false := by decide) (hcd : (x == ("__classdict__" : Str)) = false := by decide)
    (hs : swapsWithSole [.Subscript (.Name x px) k ps] e pos.line X.env = pure false := by rfl) (hw : swappedStores [.Subscript (.Name x px) k ps] e X.env = pure none := by rfl)
    (ha : ∀ v, assign (.Subscript (.Name x px) k ps) X.env v = (do
      let ov ← holding [v] (eval (.Name x px) X.env)
      let iv ← holding [v, ov] (eval k X.env)
      standAt ps
      holding [v, ov, iv] (setItem ov iv v)
      release [v, ov, iv] []) := by intro _; rfl) :
    ES X ea W m (.Assign [.Subscript (.Name x px) k ps] e pos) (sPut i g f) :=
  PS.imp (ps_asg he (pg_sub (pe_var hN hv hd hcd) hk (pset_or set_list (set_dict hu)) ha) hs hw) fun D σ H ⟨ρ, H0, G0, G, ok, q⟩ => by
    refine ⟨ρ, G, ok.env, ofE_rd ok q fun d v H1 G1 x1 m1 q1 => ?_⟩
    have ok1 := ok.extend x1
    split at q1
    · rename_i o r
      obtain ⟨p, hs, gp, cc⟩ := ok1.env.sl i _ r
      refine ⟨_, hs, ρ, G1, ok1.env, ofE_rd ok1 (q1.same x1.gg) fun d2 v2 H2 G2 x2 m2 q2 => ?_⟩
      have ok2 := ok1.extend x2
      have cc2 := cc.same x2.hh x2.gg
      have m1' : Rep X.K G2 v d := Rep.same x2.gg m1
      have sm := x2.gg
      split at q2
      · rename_i o' hput
        unfold putO at hput
        split at hput
        · obtain ⟨jj, hj, rfl⟩ := Option.map_eq_some_iff.mp hput
          cases cc2 with | lst hp rr =>
          have e2 := RepB.int m2
          subst e2
          refine .inl ⟨p, _, _, jj, rfl, rfl, hp, ?_, q2 _ _ G2 (ok2.write r hs (.lst upd_same (rr.set jj m1'))) sm⟩
          rw [rr.1]; exact hj
        · split at hput
          · rename_i hf
            rw [Bool.and_eq_true, decide_eq_true_eq] at hf
            cases hput
            cases cc2 with
            | dk hp rr =>
              obtain ⟨kk, rfl, rfl⟩ := flat_key hf.1 m2
              refine .inr ⟨p, _, rfl, DPut.k hp (by rw [rr.1, ← line_eq]; exact hf.2), q2 _ _ G2 (ok2.write r hs (.dk upd_same (repK_put rr m1'))) sm⟩
            | dt hp rr =>
              obtain ⟨kk, b, rfl, hb, rfl⟩ := tup_key x2.gh hf.1 m2
              refine .inr ⟨p, _, rfl, DPut.t hp hb (by rw [rr.1, ← line_eq]; exact hf.2), q2 _ _ G2 (ok2.write r hs (.dt upd_same (repT_put rr m1'))) sm⟩
          · cases hput
        · cases hput
      · exact q2.elim
    · exact q1.elim
/-! ### targets -/
def Upto (is : List Nat) (σ σ' : Sg) : Prop := σ'.length = σ.length ∧ ∀ k, k ∉ is → σ'[k]? = σ[k]?
def OwnSub (is : List Nat) (ρ ρ' : SR.Env) : Prop := ∀ k, isOwn ρ'[k]? = true → isOwn ρ[k]? = true ∧ k ∉ is
def rdG (K : PySem.W.Frag) (is : List Nat) (g : GX) : TG := fun v σ H Q => ∃ ρ G d, EnvOk K ρ σ H G ∧ Rep K G v d ∧ match g d ρ with
  | .ok ρ' => ∀ σ', EnvOk K ρ' σ' H G → Upto is σ σ' → OwnSub is ρ ρ' → Q σ' H
  | _ => False
def GJ (X : Cx) (tg : Expr) (is : List Nat) (g : GX) : Prop := PG X tg (rdG X.K is g)
theorem PG.imp {tg : Expr} {t t' : TG} (h : PG X tg t) (k : ∀ v σ H Q, t' v σ H Q → t v σ H Q) : PG X tg t' := ⟨fun pins s σ H v u Q I r q => h.run pins s σ H v u Q I r (k v σ H Q q)⟩
theorem upto_set {is : List Nat} {σ σ' : Sg} {o : Option V} (h : Upto is σ σ') (hi : i ∈ is) : Upto is σ (σ'.set i o) :=
  ⟨by rw [List.length_set]; exact h.1, fun k hk => by rw [List.getElem?_set_ne (fun z => by subst z; exact hk hi)]; exact h.2 k hk⟩
theorem own_set {ρ ρ' : SR.Env} {d : D} (h : ∀ k : Nat, isOwn ρ'[k]? = true → isOwn ρ[k]? = true) : ∀ k : Nat, isOwn (ρ'.set i (.pl d))[k]? = true → isOwn ρ[k]? = true ∧ k ≠ i := fun k hk => by
  obtain ⟨dk, ek⟩ := own_of hk
  rcases getSet_eq ek with ⟨_, z, _⟩ | ⟨nk, ek⟩
  · cases z
  · exact ⟨h k (by rw [ek]; rfl), nk⟩
theorem gj_name (hN : X.N.Nodup) (hi : X.N[i]? = some x) (hx : Loc X.env.scope x) (hf : X.fn x = true ∨ X.env.scope.names.lookup x = some .local := by first | exact .inl rfl | exact .inr rfl | assumption) : GJ X (.Name x pos) [i] (gSet i) :=
  PG.imp (pg_name hN hi hx hf) fun v σ H Q ⟨ρ, G, d, ok, r, q⟩ =>
    q _ (ok.setPl r) (upto_set ⟨rfl, fun _ _ => rfl⟩ (by simp)) fun k hk => by
      obtain ⟨h1, h2⟩ := own_set (ρ := ρ) (fun _ z => z) k hk
      exact ⟨h1, by simpa using h2⟩
theorem gj_tup2 {px py : Pos} {kk : Nat} (hc : X.calm = true) (hN : X.N.Nodup) (hi : X.N[i]? = some x) (hx : Loc X.env.scope x) (hj : X.N[j]? = some y) (hy : Loc X.env.scope y) (hf : X.fn x = true ∨ X.env.scope.names.lookup x = some .local := by first | exact .inl rfl | exact .inr rfl | assumption)
    (hf' : X.fn y = true ∨ X.env.scope.names.lookup y = some .local := by first | exact .inl rfl | exact .inr rfl | assumption) : GJ X (.Tuple [.Name x px, .Name y py] kk pos) [i, j] (SR.gTup [i, j]) :=
  PG.imp (pg_tup hc (pgs_cons (pg_name hN hi hx hf) (pgs_cons (pg_name hN hj hy hf') pgs_nil))) fun v σ H Q ⟨ρ, G, d, ok, r, q⟩ => by
    unfold SR.gTup at q
    split at q
    · rename_i ρ' hq
      split at hq
      · rename_i xs
        split at hq
        · rename_i hl
          cases hq
          obtain ⟨a, vs, rfl, sq, rr⟩ := r.tup'
          match xs, hl with
          | [d1, d2], _ =>
            obtain ⟨v1, ws, rfl, r1, r2⟩ := rr.consOf
            obtain ⟨v2, ws2, rfl, r3, r4⟩ := r2.consOf
            have := r4.nilOf
            subst this
            refine ⟨a, _, rfl, same_sqT ok.gh sq, rfl, v1, _, rfl, v2, _, rfl, rfl, ?_⟩
            refine q _ ((ok.setPl r1).setPl r3) (upto_set (upto_set ⟨rfl, fun _ _ => rfl⟩ (by simp)) (by simp)) fun k hk => ?_
            have hk : isOwn ((ρ.set i (.pl d1)).set j (.pl d2))[k]? = true := hk
            obtain ⟨h1, h2⟩ := own_set (ρ := (ρ.set i (.pl d1))) (fun _ z => z) k hk
            obtain ⟨h3, h4⟩ := own_set (ρ := ρ) (fun _ z => z) k h1
            exact ⟨h3, by simpa using ⟨h4, h2⟩⟩
        · cases hq
      · cases hq
    · exact q.elim
/-- a, b = e, e a tuple -/
theorem StOk.upto {K : PySem.W.Frag} {H0 G0 H G : Hp} {ρ ρ' : SR.Env} {σ σ' : Sg} {is : List Nat} (h : StOk K H0 G0 ρ σ H G) (e : EnvOk K ρ' σ' H G) (u : Upto is σ σ') (o : OwnSub is ρ ρ') : StOk K H0 G0 ρ' σ' H G :=
  ⟨e, h.ext, fun k p h1 h2 => by
    obtain ⟨h3, h4⟩ := o k h1
    rw [u.2 k h4] at h2
    exact h.new k p h3 h2⟩
theorem es_unp {tg : Expr} {is : List Nat} {gg : GX} (he : EG X ea W e f) (hg : GJ X tg is gg) (hn : ∀ d ρ c, gg d ρ ≠ .rs c) (hs : swapsWithSole [tg] e pos.line X.env = pure false := by rfl) (hw : swappedStores [tg] e X.env = pure none := by rfl)
    (h1 : (assignEach [tg] X.env).map (·.2) = [assign tg X.env] := by rfl) : ES X ea W m (.Assign [tg] e pos) (sUnp gg f) := PS.imp (ps_asg he hg hs hw h1) fun D σ H ⟨ρ, H0, G0, G, ok, q⟩ => by
  refine ⟨ρ, G, ok.env, ofE_rd ok q fun d v H1 G1 x1 m1 q1 => ⟨ρ, G1, d, ok.env.ext x1, m1, ?_⟩⟩
  have ok1 := ok.extend x1
  cases r : gg d ρ with
  | ok ρ' =>
    rw [r] at q1
    exact fun σ' e' u o => q1 σ' H1 G1 (ok1.upto e' u o) x1.gg
  | rs c => exact absurd r (hn _ _ _)
  | bad => rw [r] at q1; exact q1
theorem gTup_norm {is : List Nat} : ∀ d ρ c, SR.gTup is d ρ ≠ .rs c := fun d ρ c h => by
  unfold SR.gTup at h; split at h <;> (try split at h) <;> cases h
theorem gSet_norm {i : Nat} : ∀ d ρ c, SR.gSet i d ρ ≠ .rs c := fun d ρ c h => by
  unfold SR.gSet at h; cases h
/-! ### what is walked -/
structure ItOk (K : PySem.W.Frag) (J : It) (ds : List D) (G : Hp) : Prop where
  go : ∀ H1 G1, Same G G1 → Same G1 H1 → ∀ (i : Nat) (d : D), ds[i]? = some d → J.go i H1 ∧ ∀ x H2, J.yld i H1 x H2 → ∃ G2, Ext H1 G1 H2 G2 ∧ Rep K G2 x d
  stop : ∀ H1 G1, Same G G1 → Same G1 H1 → ∀ i, i = ds.length → J.stop i H1
def rdI (K : PySem.W.Frag) (ea : EA) (W : WX) (f : AX) : TI := fun σ H R => ∃ ρ G, EnvOk K ρ σ H G ∧ match f ρ with
  | .ok ds => ∀ J H' G', Ext H G H' G' → ItOk K J ds G' → R J H'
  | .rs c => ∀ H' G', Ext H G H' G' → W (.ref (ea c)) none σ H'
  | .bad => False
def SI (X : Cx) (ea : EA) (W : WX) (tg iter : Expr) (f : AX) : Prop := PI X tg iter (rdI X.K ea W f)
theorem PI.imp {tg iter : Expr} {t t' : TI} (h : PI X tg iter t) (k : ∀ σ H R, t' σ H R → t σ H R) : PI X tg iter t' := ⟨fun pins s σ H R I q => h.run pins s σ H R I (k σ H R q)⟩
theorem pi_or {tg iter : Expr} {t t' : TI} (h : PI X tg iter t) (h' : PI X tg iter t') : PI X tg iter (fun σ H R => t σ H R ∨ t' σ H R) := ⟨fun pins s σ H R I q => by
  rcases q with q | q
  · exact h.run pins s σ H R I q
  · exact h'.run pins s σ H R I q⟩
theorem itok_list {K : PySem.W.Frag} {a : Addr} {vs : List V} {ds : List D} {G : Hp} (hp : G a = some (.lst vs)) (r : Reps K G vs ds) : ItOk K (Itl K a) ds G := by
  refine ⟨fun H1 G1 s1 s2 i d h => ?_, fun H1 G1 s1 s2 i he => have h := Nat.le_of_eq he.symm; ⟨vs, .inl (.inl (s2 _ _ (s1 _ _ hp))), by rw [r.1]; exact h⟩⟩
  obtain ⟨v, hv, rv⟩ := r.get h
  refine ⟨⟨vs, v, .inl (.inl (s2 _ _ (s1 _ _ hp))), hv⟩, fun x H2 y => ?_⟩
  obtain ⟨rfl, y⟩ := y
  have e := y vs (.inl (.inl (s2 _ _ (s1 _ _ hp))))
  rw [hv] at e
  cases e
  exact ⟨G1, .refl s2, rv.same s1⟩
theorem itok_tup {K : PySem.W.Frag} {a : Addr} {vs : List V} {ds : List D} {G : Hp} (hp : SqT K G a vs) (r : Reps K G vs ds) : ItOk K (Itt K a) ds G := by
  refine ⟨fun H1 G1 s1 s2 i d h => ?_, fun H1 G1 s1 s2 i he => have h := Nat.le_of_eq he.symm; ⟨vs, same_sqT s2 (same_sqT s1 hp), by rw [r.1]; exact h⟩⟩
  obtain ⟨v, hv, rv⟩ := r.get h
  refine ⟨⟨vs, v, same_sqT s2 (same_sqT s1 hp), hv⟩, fun x H2 y => ?_⟩
  obtain ⟨rfl, y⟩ := y
  have e := y vs (same_sqT s2 (same_sqT s1 hp))
  rw [hv] at e
  cases e
  exact ⟨G1, .refl s2, rv.same s1⟩
theorem itok_str {K : PySem.W.Frag} {z : Str} {G : Hp} : ItOk K (Its z) ((tl z).map fun c => .str [c]) G := by
  have hl : (tl z).length = z.cps.size := by rw [← len_tl]; rfl
  refine ⟨fun H1 G1 s1 s2 i d h => ?_, fun H1 G1 s1 s2 i he => by have h := Nat.le_of_eq he.symm; rw [List.length_map, hl] at h; exact h⟩
  rw [List.getElem?_map] at h
  obtain ⟨c, hc, rfl⟩ := Option.map_eq_some_iff.mp h
  refine ⟨by have := (List.getElem?_eq_some_iff.mp hc).1; rw [hl] at this; exact this, fun x H2 y => ?_⟩
  obtain ⟨rfl, c', hc', rfl⟩ := y
  have e : c' = c := by
    have : z.cps.toList[i]? = some c := hc
    rw [Array.getElem?_toList, hc'] at this
    exact Option.some.inj this
  subst e
  exact ⟨G1, .refl s2, .str ⟨#[c']⟩⟩
theorem itok_rng {K : PySem.W.Frag} {lo hi : Int} {G : Hp} : ItOk K (Itr lo (hi - lo).toNat) (rng lo hi) G := by
  refine ⟨fun H1 G1 s1 s2 i d h => ?_, fun H1 G1 s1 s2 i he => by have h := Nat.le_of_eq he.symm; unfold rng at h; rw [List.length_map, List.length_range] at h; exact h⟩
  unfold rng at h
  rw [List.getElem?_map] at h
  obtain ⟨c, hc, rfl⟩ := Option.map_eq_some_iff.mp h
  have hi := (List.getElem?_eq_some_iff.mp hc)
  obtain ⟨h1, h2⟩ := hi
  rw [List.length_range] at h1
  rw [List.getElem_range] at h2
  subst h2
  refine ⟨h1, fun x H2 y => ?_⟩
  obtain ⟨rfl, rfl⟩ := y
  exact ⟨G1, .refl s2, .int _⟩
theorem keyD_rep {K : PySem.W.Frag} {G : Hp} (k : Key) : Rep K G (kV k) (keyD k) := by
  cases k with
  | inl i => exact .int i
  | inr z => exact .str z
theorem keyDs_reps {K : PySem.W.Frag} {G : Hp} : ∀ ks : List Key, Reps K G (ks.map kV) (ks.map keyD)
  | [] => .nil
  | k :: ks => .cons (keyD_rep k) (keyDs_reps ks)
theorem itok_keys {K : PySem.W.Frag} {a : Addr} {o : Obj} {kvs : List (Key × V)} {ds : List (D × D)} {G : Hp} (hp : G a = some (.frz o (.dK kvs))) (hl : kvs.length = ds.length) (hk : ∀ (i : Nat) (p : Key × V) (q : D × D), kvs[i]? = some p → ds[i]? = some q → q.1 = keyD p.1) :
    ItOk K (Itk a o kvs) (ds.map fun p => p.1) G := by
  refine ⟨fun H1 G1 s1 s2 i d h => ?_, fun H1 G1 s1 s2 i he => ⟨s2 _ _ (s1 _ _ hp), by rw [List.length_map] at he; omega⟩⟩
  rw [List.getElem?_map] at h
  obtain ⟨q, hq, rfl⟩ := Option.map_eq_some_iff.mp h
  have hi : i < kvs.length := by rw [hl]; exact (List.getElem?_eq_some_iff.mp hq).1
  refine ⟨⟨s2 _ _ (s1 _ _ hp), hi⟩, fun x H2 y => ?_⟩
  obtain ⟨rfl, k, v, e, rfl⟩ := y
  refine ⟨G1, .refl s2, ?_⟩
  rw [hk i _ q e hq]
  exact keyD_rep k
theorem si_any {tg : Expr} (he : EG X ea W e f) : SI X ea W tg e (src f) := PI.imp (pi_or (pi_list he) (pi_or (pi_tup he) (pi_or (pi_str he) (pi_keys he)))) fun σ H R ⟨ρ, G, ok, q⟩ => by
  unfold src at q
  have key : ∀ (R' : VK), (∀ d, f ρ = .ok d → ∀ v H1 G1, Ext H G H1 G1 → Rep X.K G1 v d → R' v H1) → rd X.K ea W (mG X.K) f σ H R' := fun R' h => ⟨ρ, G, ok, by
    cases r : f ρ with
    | ok d => exact fun v H1 G1 x m => h d r v H1 G1 x m
    | rs c => rw [r] at q; exact q
    | bad => rw [r] at q; exact q⟩
  cases r : f ρ with
  | rs c =>
    refine .inl (key _ fun d e => ?_)
    rw [r] at e; cases e
  | bad => rw [r] at q; exact q.elim
  | ok d =>
    rw [r] at q
    simp only [ok_bind] at q
    unfold itemsK at q
    split at q
    · rename_i ds hh
      split at hh
      · cases hh
        refine .inl (key _ fun d e v H1 G1 x m => ?_)
        rw [r] at e; cases e
        obtain ⟨a, vs, rfl, hp, rr⟩ := m.lst'
        exact ⟨a, rfl, ⟨vs, .inl (.inl (x.gh _ _ hp))⟩, q _ H1 G1 x (itok_list hp rr)⟩
      · cases hh
        refine .inr (.inl (key _ fun d e v H1 G1 x m => ?_))
        rw [r] at e; cases e
        obtain ⟨a, vs, rfl, hp, rr⟩ := m.tup'
        exact ⟨a, rfl, ⟨vs, same_sqT x.gh hp⟩, q _ H1 G1 x (itok_tup hp rr)⟩
      · cases hh
        refine .inr (.inr (.inl (key _ fun d e v H1 G1 x m => ?_)))
        rw [r] at e; cases e
        cases m with | str z =>
        exact ⟨z, rfl, q _ H1 G1 x itok_str⟩
      · cases hh
        refine .inr (.inr (.inr (key _ fun d e v H1 G1 x m => ?_)))
        rw [r] at e; cases e
        cases m with
        | dk hp hl hk _ => exact ⟨_, _, rfl, .inl ⟨_, x.gh _ _ hp, q _ H1 G1 x (itok_keys hp hl hk)⟩⟩
      · cases hh
    · rename_i hh
      split at hh <;> cases hh
    · exact q.elim
theorem small62_of {i : Int} (h : small62 i = true) : -(2 ^ 62) ≤ i ∧ i < 2 ^ 62 := by
  unfold small62 at h
  rw [decide_eq_true_eq] at h
  omega
theorem si_range1 {tg : Expr} {p : Pos} (hg : Gl X "range") (hm : X.mg "range" = none) (ha : EB X ea W a f) (hs : starEach [a] X.env = [(false, eval a X.env)] := by rfl) : SI X ea W tg (.Call (.Name "range" p) [a] [] pos) (srcR1 f) :=
  PI.imp (pi_range1 hg hm (pa_cons ha pa_nil (by rw [hs]; rfl)) hs) fun σ H R ⟨ρ, G, ok, q⟩ => by
    unfold srcR1 at q
    refine ⟨ρ, G, ok, ?_⟩
    cases r : f ρ with
    | bad => rw [r] at q; exact q
    | rs c => rw [r] at q; exact q
    | ok d =>
      rw [r] at q
      intro v H1 G1 x1 m1
      simp only [ok_bind] at q
      split at q
      · rename_i ds hh
        split at hh
        · split at hh
          · rename_i j hj
            cases hh
            have e1 := RepB.int m1
            subst e1
            obtain ⟨h1, h2⟩ := small62_of hj
            refine ⟨j, rfl, h1, h2, ?_⟩
            have := q (Itr 0 (j - 0).toNat) H1 G1 x1 itok_rng
            rw [Int.sub_zero] at this
            exact this
          · cases hh
        · cases hh
      · rename_i hh
        split at hh <;> (try split at hh) <;> cases hh
      · exact q.elim
theorem si_range2 {tg : Expr} {p : Pos} (hg : Gl X "range") (hm : X.mg "range" = none) (ha : EB X ea W a f) (hb : EB X ea W b g) (hs : starEach [a, b] X.env = [(false, eval a X.env), (false, eval b X.env)] := by rfl) (hs2 : starEach [b] X.env = [(false, eval b X.env)] := by rfl) : SI X ea W tg (.Call (.Name "range" p) [a, b] [] pos) (srcR2 f g) :=
  PI.imp (pi_range2 hg hm (pa_cons ha (pa_cons hb pa_nil (by rw [hs2]; rfl)) (by rw [hs, hs2])) hs hs2) fun σ H R ⟨ρ, G, ok, q⟩ => by
    unfold srcR2 at q
    refine ⟨ρ, G, ok, ?_⟩
    cases r : f ρ with
    | bad => rw [r] at q; exact q
    | rs c => rw [r] at q; exact q
    | ok d =>
      rw [r] at q
      intro v H1 G1 x1 m1
      refine ⟨ρ, G1, ok.ext x1, ?_⟩
      simp only [ok_bind] at q
      cases r2 : g ρ with
      | bad => rw [r2] at q; exact q
      | rs c => rw [r2] at q; exact fun H2 G2 x2 => q H2 G2 (x1.trans x2)
      | ok d2 =>
        rw [r2] at q
        intro v2 H2 G2 x2 m2
        simp only [ok_bind] at q
        split at q
        · rename_i ds hh
          split at hh
          · split at hh
            · rename_i ii jj hj
              cases hh
              rw [Bool.and_eq_true] at hj
              have e1 := RepB.int m1
              subst e1
              have e2 := RepB.int m2
              subst e2
              obtain ⟨h1, h2⟩ := small62_of hj.1
              obtain ⟨h3, h4⟩ := small62_of hj.2
              exact ⟨ii, jj, rfl, ⟨h1, h2, h3, h4⟩, q _ H2 G2 (x1.trans x2) itok_rng⟩
            · cases hh
          · cases hh
        · rename_i hh
          split at hh <;> (try split at hh) <;> cases hh
        · exact q.elim
theorem zipD_get : ∀ {xs ys : List D} {i : Nat} {d : D}, (zipD xs ys)[i]? = some d → ∃ x y, xs[i]? = some x ∧ ys[i]? = some y ∧ d = .tup [x, y]
  | [], _, i, d, h => by unfold zipD at h; simp at h
  | _ :: _, [], i, d, h => by unfold zipD at h; simp at h
  | x :: xs, y :: ys, 0, d, h => by unfold zipD at h; simp at h; exact ⟨x, y, rfl, rfl, h.symm⟩
  | x :: xs, y :: ys, i + 1, d, h => by
    unfold zipD at h
    obtain ⟨a, b, h1, h2, h3⟩ := zipD_get (xs := xs) (ys := ys) (i := i) (by simpa using h)
    exact ⟨a, b, by simpa using h1, by simpa using h2, h3⟩
theorem zipD_len : ∀ {xs ys : List D}, (zipD xs ys).length = min xs.length ys.length
  | [], _ => by unfold zipD; simp
  | _ :: _, [] => by unfold zipD; simp
  | x :: xs, y :: ys => by unfold zipD; rw [List.length_cons, zipD_len, List.length_cons, List.length_cons]; omega
/-! ### for -/
theorem es_for {tg iter : Expr} {sr : AX} {is : List Nat} {gg : GX} (hp : PassesOwn (model X.prog X.w) X.A X.env X.xe) (hc : X.calm = true) (hi : SI X ea W tg iter sr) (hg : GJ X tg is gg) (hn : ∀ d ρ c, gg d ρ ≠ .rs c) (hb : ESs X ea W m body s)
    (hs : ∀ x, foldedSetIterable iter X.env x = pure x := by intro _; rfl) : ES X ea W m (.For tg iter body [] pos) (sFor sr gg s) := PS.imp (ps_for hp hc hi hg hb hs) fun D σ H ⟨ρ, H0, G0, G, ok, q⟩ => by
  unfold sFor at q
  refine ⟨ρ, G, ok.env, ?_⟩
  cases r : sr ρ with
  | bad => rw [r] at q; exact q
  | rs c => rw [r] at q; exact fun H1 G1 x => q σ H1 G1 (ok.extend x) x.gg
  | ok ds =>
    rw [r] at q
    intro J H1 G1 x1 it
    simp only at q
    generalize hF : forF gg s = F at q
    refine ⟨fun i k σ H => k = ds.length - i ∧ i ≤ ds.length ∧ ∃ ρ G2, StOk X.K H0 G0 ρ σ H G2 ∧ Same G1 G2 ∧ rdSX X.K ea W m (forL F (ds.drop i) ρ) H0 G0 G2 D,
      ⟨ds.length, by simp, Nat.zero_le _, ρ, G1, ok.extend x1, Same.refl _, q.same x1.gg⟩, fun i k σ H ⟨hk, hi, ρ, G2, ok2, sm, q2⟩ => ?_⟩
    by_cases hlt : i < ds.length
    · have hd : ds[i]? = some ds[i] := List.getElem?_eq_getElem hlt
      obtain ⟨go, yl⟩ := it.go H G2 sm ok2.env.gh i _ hd
      rw [List.drop_eq_getElem_cons hlt] at q2
      unfold forL at q2
      refine .inr ⟨go, fun σ' H' => ∃ ρ' G', StOk X.K H0 G0 ρ' σ' H' G' ∧ Same G1 G' ∧ rdSX X.K ea W m (forL F (ds.drop (i + 1)) ρ') H0 G0 G' D, fun σ' H' h => ⟨ds.length - (i + 1), by omega, rfl, by omega, h⟩, fun x H' y => ?_⟩
      obtain ⟨G3, x3, rx⟩ := yl x H' y
      have ok3 := ok2.extend x3
      have q3 := q2.same x3.gg
      have sm3 := sm.trans x3.gg
      refine ⟨ρ, G3, ds[i], ok3.env, rx, ?_⟩
      have hFd : F ds[i] ρ = match gg ds[i] ρ with | .ok ρ' => s ρ' | .rs c => Out.rs c ρ | .bad => Out.bad := by rw [← hF]; rfl
      rw [hFd] at q3
      cases r2 : gg ds[i] ρ with
      | rs c => exact absurd r2 (hn _ _ _)
      | bad => rw [r2] at q3; exact q3
      | ok ρ' =>
        rw [r2] at q3
        intro σ' e' u o
        refine ⟨ρ', H0, G0, G3, ok3.upto e' u o, ?_⟩
        simp only at q3
        cases r3 : s ρ' with
        | nx ρ'' => rw [r3] at q3; exact fun σ' H' G' ok' sm' => ⟨ρ'', G', ok', sm3.trans sm', q3.same sm'⟩
        | ct ρ'' => rw [r3] at q3; exact fun σ' H' G' ok' sm' => ⟨ρ'', G', ok', sm3.trans sm', q3.same sm'⟩
        | bk ρ'' => rw [r3] at q3; exact q3
        | rt d => rw [r3] at q3; exact q3
        | rs e ρ'' => rw [r3] at q3; exact q3
        | bad => rw [r3] at q3; exact q3
    · have e : i = ds.length := by omega
      subst e
      rw [List.drop_length] at q2
      exact .inl ⟨it.stop H G2 sm ok2.env.gh _ rfl, q2 σ H G2 ok2 (Same.refl _)⟩
end
end SR

set_option linter.all false
set_option autoImplicit false
set_option Elab.async false
set_option maxRecDepth 100000
set_option maxHeartbeats 1000000
/-! SRh: comprehensions, raise, try, calls of defs, a def's body. -/
namespace SR
open PySem PySem.Spec PyProof.Rows L2 TL RZ
/-- no exception -/
abbrev W0 : WX := fun _ _ _ _ => False
/-! ### comprehensions -/
section
variable {K : PySem.W.Frag} {H G : Hp} {ρ : SR.Env} {σ : Sg}
theorem wipeR_len (ρ : SR.Env) : ∀ vs : List Nat, (SR.wipe ρ vs).length = ρ.length
  | [] => rfl
  | v :: vs => by unfold SR.wipe; rw [List.length_set, wipeR_len ρ vs]
theorem env_wipe (h : EnvOk K ρ σ H G) : ∀ vs : List Nat, EnvOk K (SR.wipe ρ vs) (L2.wipe σ vs) H G
  | [] => h
  | v :: vs => (env_wipe h vs).setDead
theorem wipe_get (σ : Sg) : ∀ (vs : List Nat) (i : Nat), (L2.wipe σ vs)[i]? = if i ∈ vs then (if i < σ.length then some none else none) else σ[i]?
  | [], i => by simp [L2.wipe]
  | v :: vs, i => by
    unfold L2.wipe
    by_cases h : v = i
    · subst h
      rw [if_pos (by simp)]
      by_cases hl : v < σ.length
      · rw [List.getElem?_set_self (by rw [wipe_length]; exact hl), if_pos hl]
      · rw [List.getElem?_eq_none (by rw [List.length_set, wipe_length]; omega), if_neg hl]
    · rw [List.getElem?_set_ne h, wipe_get σ vs i]
      by_cases hi : i ∈ vs
      · rw [if_pos hi, if_pos (List.mem_cons_of_mem v hi)]
      · rw [if_neg hi, if_neg (by simp [hi]; exact fun e => h e.symm)]
theorem wipe_upto {is : List Nat} {σ σ' : Sg} (u : Upto is (L2.wipe σ is) σ') : L2.wipe σ' is = L2.wipe σ is := by
  apply List.ext_getElem?
  intro i
  rw [wipe_get, wipe_get]
  have hl : σ'.length = σ.length := by rw [u.1, wipe_length]
  by_cases h : i ∈ is
  · rw [if_pos h, if_pos h, hl]
  · rw [if_neg h, if_neg h, u.2 i h, wipe_get, if_neg h]
end
section
variable {X : Cx} {ea : EA} {W : WX} {m : Mode} {elt tg iter e : Expr} {ifs : List Expr} {es : List Expr} {pos pos' : Pos} {f : EX} {t : TX} {gg : GX} {sr : AX} {scope : Scope} {own : List (Str × Nat)} {i : Nat} {x : Str}
def ETs (X : Cx) (ea : EA) (W : WX) (ifs : List Expr) (t : TX) : Prop := PTs X ifs (rdT X.K ea W t)
theorem ets_nil : ETs X ea W [] yes := ⟨fun pins s σ H Q I ⟨ρ, G, ok, q⟩ => pts_nil.run pins s σ H Q I (q H G (.refl ok.gh))⟩
theorem ets_one {c : Expr} (h : ET X ea W c t) : ETs X ea W [c] t := pts_one h
theorem compL_ok {g : GX} {t : TX} {e : EX} {x : D} {r ys : List D} {ρ : SR.Env} (h : compL g t e (x :: r) ρ = .ok ys) :
    ∃ ρ', g x ρ = .ok ρ' ∧ ((t ρ' = .ok false ∧ compL g t e r ρ = .ok ys) ∨ ∃ y ys', t ρ' = .ok true ∧ e ρ' = .ok y ∧ compL g t e r ρ = .ok ys' ∧ ys = y :: ys') := by
  unfold compL at h
  split at h
  · rename_i ρ' hg
    refine ⟨ρ', hg, ?_⟩
    split at h
    · rename_i ht
      split at h
      · rename_i y he
        cases hr : compL g t e r ρ with
        | ok ys' => rw [hr] at h; cases h; exact .inr ⟨y, ys', ht, he, rfl, rfl⟩
        | rs c => rw [hr] at h; cases h
        | bad => rw [hr] at h; cases h
      · cases h
      · cases h
    · rename_i ht
      exact .inl ⟨ht, h⟩
    · cases h
    · cases h
  · cases h
  · cases h
theorem rd_lc {K : PySem.W.Frag} {σ : Sg} {H : Hp} {Q : VK} (is : List Nat) (h : rd K ea W (mF K) (comp sr is gg t f) σ H Q) :
    tLc (rdI K ea W sr) (rdG K is gg) (rdT K ea W0 t) (rd K ea W0 (mG K) f) is σ H Q := by
  obtain ⟨ρ, G, ok, q⟩ := h
  unfold comp at q
  refine ⟨ρ, G, ok, ?_⟩
  cases r : sr ρ with
  | bad => rw [r] at q; exact q
  | rs c => rw [r] at q; exact q
  | ok ds =>
    rw [r] at q
    simp only [ok_bind] at q
    intro J H1 G1 x1 it D hD
    split at q
    · rename_i ys hys
      split at q
      · rename_i hlen
        have gD : G1 D = none := same_none x1.gh hD
        have ok1 := env_wipe (ok.ext x1) is
        -- what holds between two turns
        refine ⟨fun k mm H2 => mm = ds.length - k ∧ k ≤ ds.length ∧ ∃ G2 acc zs rest, Ext H1 G1 H2 G2 ∧ G2 D = none ∧ H2 D = some (.lst acc) ∧ Reps K G2 acc zs ∧ zs.length ≤ k ∧ compL gg t f (ds.drop k) (SR.wipe ρ is) = .ok rest ∧ ys = zs ++ rest,
          ⟨ds.length, by simp, Nat.zero_le _, G1, [], [], ys, ⟨same_updN hD, Same.refl _, x1.gh.trans (same_updN hD), fun _ _ e => e⟩, gD, upd_same, .nil, Nat.le_refl _, hys, rfl⟩, fun k mm H2 ⟨hm, hk, G2, acc, zs, rest, x2, g2, h2, rz, hz, hc, he⟩ => ?_⟩
        by_cases hlt : k < ds.length
        · have hd : ds[k]? = some ds[k] := List.getElem?_eq_getElem hlt
          obtain ⟨go, yl⟩ := it.go H2 G2 x2.gg x2.gh k _ hd
          rw [List.drop_eq_getElem_cons hlt] at hc
          obtain ⟨ρ', hg, hh⟩ := compL_ok hc
          refine .inr ⟨go, fun H' => ∃ G2 acc zs rest, Ext H1 G1 H' G2 ∧ G2 D = none ∧ H' D = some (.lst acc) ∧ Reps K G2 acc zs ∧ zs.length ≤ k + 1 ∧ compL gg t f (ds.drop (k + 1)) (SR.wipe ρ is) = .ok rest ∧ ys = zs ++ rest, fun H' h => ⟨ds.length - (k + 1), by omega, rfl, by omega, h⟩, fun v H3 y => ?_⟩
          obtain ⟨G3, x3, rv⟩ := yl v H3 y
          have x13 := x2.trans x3
          have g3 : G3 D = none := x3.out D (by rw [h2]; trivial) g2
          have h3 : H3 D = some (.lst acc) := x3.hh _ _ h2
          have ok3 := ok1.ext x13
          refine ⟨SR.wipe ρ is, G3, ds[k], ok3, rv, ?_⟩
          rw [hg]
          intro σ' e' u o
          refine ⟨wipe_upto u, ρ', G3, e', ?_⟩
          rcases hh with ⟨ht, hr⟩ | ⟨y', ys', ht, hy, hr, rfl⟩
          · rw [ht]
            intro H4 G4 x4
            rw [if_neg Bool.false_ne_true]
            exact ⟨G4, acc, zs, rest, x13.trans x4, x4.out D (by rw [h3]; trivial) g3, x4.hh _ _ h3, rz.same (x3.gg.trans x4.gg), by omega, hr, he⟩
          · rw [ht]
            intro H4 G4 x4
            rw [if_pos rfl]
            refine ⟨ρ', G4, e'.ext x4, ?_⟩
            rw [hy]
            intro w H5 G5 x5 m5
            have x45 := x4.trans x5
            have h5 : H5 D = some (.lst acc) := x45.hh _ _ h3
            have g5 : G5 D = none := x45.out D (by rw [h3]; trivial) g3
            have rz5 := rz.same (x3.gg.trans x45.gg)
            have hzl : acc.length = zs.length := rz.1
            refine ⟨acc, h5, by rw [hzl, ← line_eq]; omega, G5, acc ++ [w], zs ++ [y'], ys', ?_, g5, upd_same, rz5.append (.cons m5 .nil), by simp; omega, hr, by rw [he, List.append_assoc]; rfl⟩
            have x15 := x13.trans x45
            have hne : ∀ a o, H1 a = some o → a ≠ D := fun a o e => ne_of_none e hD
            have gne : ∀ a o, G5 a = some o → a ≠ D := fun a o e z => by subst z; rw [g5] at e; cases e
            exact ⟨fun a o e => by rw [upd_ne (hne a o e)]; exact x15.hh a o e, x15.gg, fun a o e => by rw [upd_ne (gne a o e)]; exact x15.gh a o e, x15.out⟩
        · have e : k = ds.length := by omega
          subst e
          rw [List.drop_length] at hc
          unfold compL at hc
          cases hc
          rw [List.append_nil] at he
          subst he
          refine .inl ⟨it.stop H2 G2 x2.gg x2.gh _ rfl, ?_⟩
          exact q _ H2 G2 (x1.trans x2) (.inr ⟨D, rfl, same_none x1.hh hD, g2, .lst h2 rz⟩)
      · exact q.elim
    · exact q.elim
/-- [elt for tg in iter if ..] -/
theorem ef_comp (is : List Nat) (hc : X.calm = true) (hN : X.N.Nodup) (hi : SI X ea W tg iter sr) (ok : BlkOk X.N X.env.scope scope own) (ho : own.map (·.2) = is)
    (hg : ∀ (s : Shared) (H : Hp) (C : Addr) (cl : List (Str × Addr)) (fp : List Addr), GJ (X.blk s H scope (compEnvC scope cl C X.env) fp) tg is gg) (ht : ∀ (s : Shared) (H : Hp) (C : Addr) (cl : List (Str × Addr)) (fp : List Addr), ETs (X.blk s H scope (compEnvC scope cl C X.env) fp) ea W0 ifs t)
    (he : ∀ (s : Shared) (H : Hp) (C : Addr) (cl : List (Str × Addr)) (fp : List Addr), EG (X.blk s H scope (compEnvC scope cl C X.env) fp) ea W0 elt f) (hs : ∀ x, foldedSetIterable iter X.env x = pure x := by intro _; rfl) :
    EF X ea W (.ListComp elt [⟨tg, iter, ifs, 0⟩] scope pos) (comp sr is gg t f) := by
  exact PE.imp (pe_lc (g := rdG X.K is gg) (tt := rdT X.K ea W0 t) (te := rd X.K ea W0 (mG X.K) f) hc hN hi ok hg ht he hs) fun σ H Q h => by rw [ho]; exact rd_lc is h
/-- x = [..] on one line, x a local: plain, or to be changed -/
theorem es_setLc {py : Pos} (is : List Nat) (hc : X.calm = true) (hN : X.N.Nodup) (hy : X.N[i]? = some x) (hyl : X.env.scope.names.lookup x = some .local)
    (hsw : swapsWith (.ListComp elt [⟨tg, iter, ifs, 0⟩] scope pos) (some (.Name x py)) pos'.line X.env = pure true) (hi : SI X ea W tg iter sr) (ok : BlkOk X.N X.env.scope scope own) (ho : own.map (·.2) = is)
    (hg : ∀ (s : Shared) (H : Hp) (C : Addr) (cl : List (Str × Addr)) (fp : List Addr), GJ (X.blk s H scope (compEnvC scope cl C X.env) fp) tg is gg) (ht : ∀ (s : Shared) (H : Hp) (C : Addr) (cl : List (Str × Addr)) (fp : List Addr), ETs (X.blk s H scope (compEnvC scope cl C X.env) fp) ea W0 ifs t)
    (he : ∀ (s : Shared) (H : Hp) (C : Addr) (cl : List (Str × Addr)) (fp : List Addr), EG (X.blk s H scope (compEnvC scope cl C X.env) fp) ea W0 elt f) (hs : ∀ x, foldedSetIterable iter X.env x = pure x := by intro _; rfl) :
    ES X ea W m (.Assign [.Name x py] (.ListComp elt [⟨tg, iter, ifs, 0⟩] scope pos) pos') (sSet i (comp sr is gg t f)) := by
  refine PS.imp (ps_setLc (g := rdG X.K is gg) (tt := rdT X.K ea W0 t) (te := rd X.K ea W0 (mG X.K) f) hc hN hy hyl hsw hi ok hg ht he hs) fun D σ H ⟨ρ, H0, G0, G, ok, q⟩ => ?_
  rw [ho]
  refine rd_lc is ⟨ρ, G, ok.env, ?_⟩
  unfold sSet at q
  have hl : ∀ d, comp sr is gg t f ρ = .ok d → d.dc = false := fun d e => by
    unfold comp at e
    cases r : sr ρ with
    | bad => rw [r] at e; cases e
    | rs c => rw [r] at e; cases e
    | ok ds =>
      rw [r] at e
      simp only [ok_bind] at e
      split at e
      · split at e
        · cases e; rfl
        · cases e
      · cases e
  generalize comp sr is gg t f ρ = r at q hl ⊢
  cases r with
  | rs c => exact fun H1 G1 x => q σ H1 G1 (ok.extend x) x.gg
  | bad => exact q
  | ok d =>
    intro v H1 G1 x1 m1
    rcases RepF.toGz x1 m1 with ⟨G2, x2, m2⟩ | ⟨_, _, _, _, _, z, _⟩
    · exact q _ H1 G2 ((ok.extend x2).setPl m2) x2.gg
    · rw [hl d rfl] at z; cases z
theorem es_ownLc {py : Pos} (is : List Nat) (hc : X.calm = true) (hN : X.N.Nodup) (hy : X.N[i]? = some x) (hyl : X.env.scope.names.lookup x = some .local)
    (hsw : swapsWith (.ListComp elt [⟨tg, iter, ifs, 0⟩] scope pos) (some (.Name x py)) pos'.line X.env = pure true) (hi : SI X ea W tg iter sr) (ok : BlkOk X.N X.env.scope scope own) (ho : own.map (·.2) = is)
    (hg : ∀ (s : Shared) (H : Hp) (C : Addr) (cl : List (Str × Addr)) (fp : List Addr), GJ (X.blk s H scope (compEnvC scope cl C X.env) fp) tg is gg) (ht : ∀ (s : Shared) (H : Hp) (C : Addr) (cl : List (Str × Addr)) (fp : List Addr), ETs (X.blk s H scope (compEnvC scope cl C X.env) fp) ea W0 ifs t)
    (he : ∀ (s : Shared) (H : Hp) (C : Addr) (cl : List (Str × Addr)) (fp : List Addr), EG (X.blk s H scope (compEnvC scope cl C X.env) fp) ea W0 elt f) (hs : ∀ x, foldedSetIterable iter X.env x = pure x := by intro _; rfl) :
    ES X ea W m (.Assign [.Name x py] (.ListComp elt [⟨tg, iter, ifs, 0⟩] scope pos) pos') (sOwn i (comp sr is gg t f)) := by
  exact PS.imp (ps_setLc (g := rdG X.K is gg) (tt := rdT X.K ea W0 t) (te := rd X.K ea W0 (mG X.K) f) hc hN hy hyl hsw hi ok hg ht he hs) fun D σ H h => by rw [ho]; exact rd_lc is (rd_own h)
end
/-! ### calls of defs -/
/-- a def's promise -/
def spD (K : PySem.W.Frag) (ea : EA) (m : Mode) (np : Nat) (run : List D → Res D) : Sp := fun vs H Q E => vs.length = np ∧ ∃ G ds, Same G H ∧ Reps K G vs ds ∧ match run ds with
  | .ok d => ∀ v H' G', Ext H G H' G' → m H H' G' v d → Q v H'
  | .rs c => ∀ H' G', Ext H G H' G' → E (.ref (ea c)) none H'
  | .bad => False
/-- a def of the program, as its callers see it -/
structure Fn (P : Program) (w : World) (K : PySem.W.Frag) (mg : Str → Option Value) (base : Heap) (ea : EA) (x : Str) (m : Mode) (k : Nat) (ps : List Str) (run : List D → Res D) : Prop where
  ex : ∃ f fd, FnOk P w K mg base (L2.CX P w) k f fd ps (spD K ea m ps.length run) ∧ mg x = some (.ref f) ∧ PySem.W.keepIn K (.ref f) = true ∧ (∀ us : List Value, us.length = ps.length → bindArgs fd ⟨us, []⟩ = pure (ps.zip us)) ∧ ∃ oc od sl, K.lookup f = some ⟨oc, od, .func fd, sl⟩
section
variable {X : Cx} {ea : EA} {W : WX} {m : Mode} {e : Expr} {es : List Expr} {p pos : Pos} {r : AX} {x : Str} {k : Nat} {ps : List Str} {run : List D → Res D}
theorem e_call (F : Fn X.prog X.w X.K X.mg X.base ea x m k ps run) (hr : Room k X.A) (tk : Takes X W) (hg : Gl X x) (ha : EA' X ea W (e :: es) r) (gm : GoodM X.K m) (hnp : (e :: es).length = ps.length)
    (hl : ∀ ρ ds, r ρ = .ok ds → ds.length = ps.length)
    (hdb : (x == ("__debug__" : Str)) = false := by decide) (he : starEach (e :: es) X.env = (false, eval e X.env) :: starEach es X.env := by rfl) (hpl : (backTo pos (starEach es X.env)).any (·.1) = false := by rfl) :
    PE X (.Call (.Name x p) (e :: es) [] pos) (rd X.K ea W m (fun ρ => (r ρ).bind run)) := by
  obtain ⟨f, fd, F, hm, hk, hb, _⟩ := F.ex
  refine PE.imp (pe_callS F hr hg hm hk (.all hb) (fun σ => passAt tk σ) ha hdb he hpl) fun σ H Q ⟨ρ, G, ok, q⟩ => ?_
  refine ⟨ρ, G, ok, ?_⟩
  cases e1 : r ρ with
  | bad => simp only [e1, bad_bind] at q; exact q
  | rs c => simp only [e1, rs_bind] at q; exact q
  | ok ds =>
    simp only [e1, ok_bind] at q
    intro vs H1 G1 x1 m1
    refine ⟨by rw [m1.1]; exact hl _ _ e1, G1, ds, x1.gh, m1, ?_⟩
    cases e2 : run ds with
    | bad => rw [e2] at q; exact q
    | rs c => rw [e2] at q; exact fun H' G' x' => q H' G' (x1.trans x')
    | ok d => rw [e2] at q; exact fun v H' G' x' m' => q v H' G' (x1.trans x') (gm.base _ _ _ _ _ _ x1.hh m')
theorem al_nil : ∀ ρ ds, anil ρ = .ok ds → ds.length = 0 := fun ρ ds h => by cases h; rfl
theorem al_cons {f : EX} {r : AX} {n : Nat} (h : ∀ ρ ds, r ρ = .ok ds → ds.length = n) : ∀ ρ ds, acons f r ρ = .ok ds → ds.length = n + 1 := fun ρ ds h' => by
  unfold acons at h'
  cases e1 : f ρ with
  | bad => rw [e1] at h'; cases h'
  | rs c => rw [e1] at h'; cases h'
  | ok d =>
    rw [e1] at h'
    simp only [ok_bind] at h'
    cases e2 : r ρ with
    | bad => rw [e2] at h'; cases h'
    | rs c => rw [e2] at h'; cases h'
    | ok ds' =>
      rw [e2] at h'
      cases h'
      rw [List.length_cons, h ρ ds' e2]
end
/-! ### a def's body keeps the promise -/
section
variable {P : Program} {w : World} {K : PySem.W.Frag} {mg : Str → Option Value} {base : Heap}
theorem env_start {G H : Hp} {N : List Str} {vs : List V} {ds : List D} (s : Same G H) (r : Reps K G vs ds) (hl : ds.length ≤ N.length) : EnvOk K (ds.map .pl ++ List.replicate (N.length - ds.length) .dead) (L2.start N vs) H G := by
  unfold L2.start
  rw [r.1]
  have iso : ∀ i : Nat, isOwn ((ds.map Slot.pl ++ List.replicate (N.length - ds.length) .dead)[i]?) = false := fun i => by
    by_cases h : i < ds.length
    · rw [List.getElem?_append_left (by simpa using h), List.getElem?_map, List.getElem?_eq_getElem h]; rfl
    · rw [List.getElem?_append_right (by simpa using h)]
      rw [List.getElem?_replicate]
      split <;> rfl
  refine ⟨s, by simp [r.1], fun i sl h => ?_, fun i j p ne h1 _ _ => by rw [iso i] at h1; cases h1⟩
  by_cases hi : i < ds.length
  · rw [List.getElem?_append_left (by simpa using hi), List.getElem?_map] at h
    obtain ⟨d, hd, rfl⟩ := Option.map_eq_some_iff.mp h
    obtain ⟨v, hv, rv⟩ := r.get hd
    refine ⟨v, ?_, rv⟩
    rw [List.getElem?_append_left (by simp [r.1]; exact hi), List.getElem?_map, hv]; rfl
  · rw [List.getElem?_append_right (by simpa using hi), List.getElem?_replicate] at h
    split at h
    · cases h; trivial
    · cases h
theorem fn_mk {x qual : Str} {st : Stmt} {f : Addr} {fd : FuncData} {N ps : List Str} {k : Nat} {ea : EA} {m : Mode} {b : SX} (F : Fun K x qual st f fd) (S : FnScope N ps (defScope st)) (gm : GoodM K m) (hx : mg x = some (.ref f))
    (hb : ∀ us : List Value, us.length = ps.length → bindArgs fd ⟨us, []⟩ = pure (ps.zip us))
    (body : ∀ (cdv : Value) (A : Around) (outer : List PySem.Env) (s : Shared) (H : Hp) (E : XK), Room k (A.deeper (envOfC qual (defScope st) s.heap.objs.size f cdv)) →
      Takes (cxOf (L2.CX P w) P w K mg base N qual (defScope st) f cdv A outer s H E) (fun cls d _ H => E cls d H) →
      PassesOwn (model P w) (A.deeper (envOfC qual (defScope st) s.heap.objs.size f cdv)) (envOfC qual (defScope st) s.heap.objs.size f cdv) (cxOf (L2.CX P w) P w K mg base N qual (defScope st) f cdv A outer s H E).xe →
      ESs (cxOf (L2.CX P w) P w K mg base N qual (defScope st) f cdv A outer s H E) ea (fun cls d _ H => E cls d H) m (defBody st) b)
    (hp : ps.length ≤ N.length := by decide) :
    Fn P w K mg base ea x m (k + 1) ps (runB N.length b) := by
  refine ⟨f, fd, F.okX S (fun vs H Q E h => h.1) (fun cdv A outer s H vs Q E hr h => ?_), hx, F.kp, hb, by obtain ⟨oc, od, _, _, _, _, _, _, osl, _, lk, _⟩ := F.ex; exact ⟨oc, od, osl, lk⟩⟩
  refine ⟨_, body cdv A outer s H E hr (takes_of rfl rfl rfl rfl) (passes_of (X := cxOf (L2.CX P w) P w K mg base N qual (defScope st) f cdv A outer s H E) rfl), ?_⟩
  obtain ⟨hl, G, ds, sg, r, q⟩ := h
  have hd : ds.length ≤ N.length := by rw [← r.1, hl]; exact hp
  refine ⟨_, H, G, G, ⟨env_start sg r hd, .refl sg, fun i p h1 _ => ?_⟩, ?_⟩
  · have := (env_start (K := K) (N := N) sg r hd)
    exfalso
    have iso : isOwn ((ds.map Slot.pl ++ List.replicate (N.length - ds.length) .dead)[i]?) = false := by
      by_cases h : i < ds.length
      · rw [List.getElem?_append_left (by simpa using h), List.getElem?_map, List.getElem?_eq_getElem h]; rfl
      · rw [List.getElem?_append_right (by simpa using h)]
        rw [List.getElem?_replicate]
        split <;> rfl
    rw [iso] at h1; cases h1
  · unfold runB at q
    cases e : b (ds.map Slot.pl ++ List.replicate (N.length - ds.length) .dead) with
    | nx ρ => rw [e] at q; exact fun σ' H' G' ok' sm => q _ H' G' ok'.ext (gm.flat _ _ _ _ _ .non rfl)
    | rt d => rw [e] at q; exact q
    | bk ρ => rw [e] at q; exact q.elim
    | ct ρ => rw [e] at q; exact q.elim
    | rs c ρ => rw [e] at q; exact fun σ' H' G' ok' sm => q H' G' ok'.ext
    | bad => rw [e] at q; exact q
theorem Fn.mono {ea : EA} {x : Str} {m : Mode} {j k : Nat} {ps : List Str} {run : List D → Res D} (F : Fn P w K mg base ea x m j ps run) (h : j ≤ k) : Fn P w K mg base ea x m k ps run := by
  obtain ⟨f, fd, F, r⟩ := F.ex
  exact ⟨f, fd, F.mono h, r⟩
theorem Fn.cast {ea : EA} {x : Str} {m : Mode} {k : Nat} {ps : List Str} {run run' : List D → Res D} (F : Fn P w K mg base ea x m k ps run) (h : ∀ ds, run' ds ≠ .bad → run ds = run' ds) : Fn P w K mg base ea x m k ps run' := by
  obtain ⟨f, fd, F, r⟩ := F.ex
  refine ⟨f, fd, F.imp fun vs H Q E ⟨hl, G, ds, s, rr, q⟩ => ⟨hl, G, ds, s, rr, ?_⟩, r⟩
  cases e : run' ds with
  | bad => rw [e] at q; exact q.elim
  | ok d => rw [h ds (by rw [e]; exact fun z => by cases z), e]; rw [e] at q; exact q
  | rs c => rw [h ds (by rw [e]; exact fun z => by cases z), e]; rw [e] at q; exact q
end
end SR

set_option linter.all false
set_option autoImplicit false
set_option Elab.async false
set_option maxRecDepth 100000
set_option maxHeartbeats 1000000
/-! SRi: built-in functions and methods. -/
namespace SR
open PySem PySem.Spec PyProof.Rows L2 TL RZ
section
variable {X : Cx} {ea : EA} {W : WX} {m : Mode} {e a b : Expr} {es : List Expr} {p pos apos cpos : Pos} {f g : EX} {x : Str}
/-- a built-in function or class of one value -/
def OpU (X : Cx) (f : Value) (op : D → Res D) : Prop :=
  (∀ d c, op d ≠ .rs c) ∧ ∃ r, CallR X f r ∧ ∀ (H G : Hp) (x : V) (d z : D) (Q : VK), Same G H → RepB X.K H G x d → op d = .ok z → (∀ v H' G', Ext H G H' G' → RepF X.K H H' G' v z → Q v H') → r [x] H Q
theorem rd_un {op : D → Res D} {r : List V → Hp → VK → Prop} (nr : ∀ d c, op d ≠ .rs c) (ho : ∀ (H G : Hp) (x : V) (d z : D) (Q : VK), Same G H → RepB X.K H G x d → op d = .ok z → (∀ v H' G', Ext H G H' G' → RepF X.K H H' G' v z → Q v H') → r [x] H Q)
    {σ : Sg} {H : Hp} {Q : VK} (h : rd X.K ea W (mF X.K) (un op f) σ H Q) : tCB r (tCons (rd X.K ea W (mB X.K) f) tNil) σ H Q := by
  obtain ⟨ρ, G, ok, q⟩ := h
  refine ⟨ρ, G, ok, q.bind fun d v H1 G1 x1 m1 q1 => ?_⟩
  have q2 := q1.extF x1
  cases r' : op d with
  | ok z => rw [r'] at q2; exact ho H1 G1 v d z Q x1.gh m1 r' q2
  | rs c => exact absurd r' (nr _ _)
  | bad => rw [r'] at q2; exact q2.elim
theorem ef_b1 {id : String} {op : D → Res D} (ho : OpU X (.builtin id) op) (hg : Gl X x) (hm : X.mg x = none) (hv : bootBuiltins x = some (.builtin id)) (ha : EB X ea W a f) (hn : x ≠ "__name__" := by decide) (hdb : (x == ("__debug__" : Str)) = false := by decide)
    (he : starEach (a :: []) X.env = (false, eval a X.env) :: starEach [] X.env := by rfl) : EF X ea W (.Call (.Name x p) [a] [] pos) (un op f) := by
  obtain ⟨nr, r, h1, h2⟩ := ho
  exact PE.imp (pe_callB h1 hg hm hv (pa_cons ha pa_nil he) hn hdb he rfl) fun σ H Q h => rd_un nr h2 h
theorem ef_t1 {T : String} {op : D → Res D} (ho : OpU X (.type T) op) (hg : Gl X x) (hm : X.mg x = none) (hv : bootBuiltins x = some (.type T)) (ha : EB X ea W a f) (hn : x ≠ "__name__" := by decide) (hdb : (x == ("__debug__" : Str)) = false := by decide)
    (he : starEach (a :: []) X.env = (false, eval a X.env) :: starEach [] X.env := by rfl) : EF X ea W (.Call (.Name x p) [a] [] pos) (un op f) := by
  obtain ⟨nr, r, h1, h2⟩ := ho
  exact PE.imp (pe_callTy h1 hg hm hv (pa_cons ha pa_nil he) hn hdb he rfl) fun σ H Q h => rd_un nr h2 h
theorem opu_len : OpU X (.builtin "len") dLen := by
  refine ⟨fun d c h => ?_, _, call_len, fun H G x d z Q s rx h q => ?_⟩
  · unfold dLen at h; split at h <;> (try split at h) <;> cases h
  · unfold dLen at h
    split at h
    · cases h
      obtain ⟨p, vs, rfl, hp, r⟩ := rx.lst s
      exact ⟨_, _, rfl, .inl ⟨vs, .inl (.inl hp), rfl⟩, told s q (by rw [r.1]; exact .int _) rfl⟩
    · cases h
      obtain ⟨p, vs, rfl, hp, r⟩ := rx.tup
      exact ⟨_, _, rfl, .inr ⟨vs, same_sqT s hp, rfl⟩, told s q (by rw [r.1]; exact .int _) rfl⟩
    · cases h
      obtain ⟨p, rfl, hp⟩ := rx.scr s
      exact ⟨_, _, rfl, .inl ⟨_, hp, rfl⟩, told s q (by rw [List.length_map]; exact .int _) rfl⟩
    · split at h
      · rename_i hz
        cases h
        obtain ⟨y, rfl, rfl⟩ := rx.str
        exact ⟨_, _, rfl, ⟨by rw [len_tl, ← line_eq]; exact hz, rfl⟩, told s q (by rw [len_tl]; exact .int _) rfl⟩
      · cases h
    · cases h
theorem opu_int : OpU X (.type "int") dInt := by
  refine ⟨fun d c h => ?_, _, call_int1, fun H G x d z Q s rx h q => ?_⟩
  · unfold dInt at h; split at h <;> cases h
  · unfold dInt at h
    split at h
    · cases h
      have := rx.int; subst this
      exact .inl ⟨_, rfl, told s q (.int _) rfl⟩
    · cases h
      have := rx.bl; subst this
      exact .inr ⟨_, rfl, told s q (.int _) rfl⟩
    · cases h
theorem opu_tuple : OpU X (.type "tuple") dTuple := by
  refine ⟨fun d c h => ?_, _, call_tupleF, fun H G x d z Q s rx h q => ?_⟩
  · unfold dTuple at h; split at h <;> cases h
  · unfold dTuple at h
    split at h
    · cases h
      obtain ⟨p, vs, rfl, hp, r⟩ := rx.lst s
      exact ⟨p, vs, rfl, .inl ⟨.inl (.inl hp), new_tup s r q⟩⟩
    · cases h
      obtain ⟨p, vs, e, hp, r⟩ := rx.tup
      subst e
      exact ⟨p, vs, rfl, .inr ⟨same_sqT s hp, told s q (rx.rep rfl) rfl⟩⟩
    · cases h
/-- list(x) of a text -/
theorem call_list_text (hc : X.calm = true) : CallR X (.type "list") (fun xs H Q => ∃ z, xs = [.str z] ∧ z.length ≤ sizeLine ∧ ∀ l, H l = none → Q (.ref l) (upd H l (.lst ((tl z).map fun c => .str ⟨#[c]⟩)))) := by
  intro pins s σ H xs us Q I r h
  obtain ⟨z, rfl, hz, q⟩ := h
  obtain ⟨u, rfl, t, rfl⟩ := vals1 r
  refine call_list_str (I.ok.hd hc) z t (hn := hz) fun h' tk acc' c' hk hS' hacc => ?_
  have hl : (tl z).length = z.cps.size := by rw [← len_tl]; rfl
  refine ⟨.ref s.heap.objs.size, _, I.laid (a := s.heap.objs.size) (o := .lst ((tl z).map fun c => V.str ⟨#[c]⟩)) (t' := tk) (fun b o e => hk b o e) (Nat.le_refl _) ?_, rfl, q _ (I.hok.fresh (Nat.le_refl _))⟩
  refine ⟨by rw [List.length_map, hl]; exact hz, acc'.toList, c', ?_, by simpa using hS'⟩
  refine vals_of_at (by simp [hl, hacc.1]) fun j x u e1 e2 => ?_
  obtain ⟨c, u', hc', rfl⟩ := hacc.2 j u (by simpa using e2)
  rw [List.getElem?_map] at e1
  obtain ⟨c2, h2, rfl⟩ := Option.map_eq_some_iff.mp e1
  have : z.cps.toList[j]? = some c2 := h2
  rw [Array.getElem?_toList, hc'] at this
  cases this
  exact ⟨_, rfl⟩
theorem reps_text {K : PySem.W.Frag} {G : Hp} : ∀ x : Txt, Reps K G (x.map fun c => V.str ⟨#[c]⟩) (x.map fun c => D.str [c])
  | [] => .nil
  | c :: x => .cons (.str ⟨#[c]⟩) (reps_text x)
theorem opu_list (hc : X.calm = true) : OpU X (.type "list") dList := by
  refine ⟨fun d c h => ?_, _, (call_list_of).or (call_list_text hc), fun H G x d z Q s rx h q => ?_⟩
  · unfold dList at h; split at h <;> (try split at h) <;> cases h
  · unfold dList at h
    split at h
    · cases h
      obtain ⟨p, vs, rfl, hp, r⟩ := rx.lst s
      exact .inl ⟨p, vs, rfl, .inl (.inl (.inl hp)), new_lst s r q⟩
    · cases h
      obtain ⟨p, vs, e, hp, r⟩ := rx.tup
      subst e
      exact .inl ⟨p, vs, rfl, .inr (same_sqT s hp), new_lst s r q⟩
    · split at h
      · rename_i hz
        cases h
        obtain ⟨y, rfl, rfl⟩ := rx.str
        exact .inr ⟨y, rfl, by rw [len_tl, ← line_eq]; exact hz, new_lst s (reps_text _) q⟩
      · cases h
    · cases h
/-! isinstance -/
def tyN : KT → String
  | .int => "int" | .bool => "bool" | .str => "str" | .tuple => "tuple" | .list => "list"
theorem isi_kit (t : KT) : kitB "NoneType" (tyN t) = some false ∧ kitB "int" (tyN t) = some (decide (t = .int)) ∧ kitB "bool" (tyN t) = some (decide (t = .int) || decide (t = .bool)) ∧ kitB "str" (tyN t) = some (decide (t = .str)) ∧
    kitB "tuple" (tyN t) = some (decide (t = .tuple)) ∧ kitB "list" (tyN t) = some (decide (t = .list)) ∧ kitB "dict" (tyN t) = some false := by
  cases t <;> decide +kernel
theorem tyX_of {H G : Hp} {v : V} {d : D} {t : KT} (s : Same G H) (r : RepB X.K H G v d) (hd : d.dT = false) : ∃ T, TyX X.K H v (.type T) ∧ kitB T (tyN t) = some (isT t d) := by
  obtain ⟨k1, k2, k3, k4, k5, k6, k7⟩ := isi_kit t
  rcases r with r | ⟨p, e, c⟩
  · cases r with
    | non => exact ⟨"NoneType", .base .non, k1⟩
    | bl b => exact ⟨"bool", .base (.bl _), k3⟩
    | int i => exact ⟨"int", .base (.int _), k2⟩
    | str z => exact ⟨"str", .base (.str _), k4⟩
    | tup sq _ _ _ => exact ⟨"tuple", .fTuple (s _ _ sq), k5⟩
    | tupK sq _ =>
      rcases sq with (sq | ⟨_, sq⟩) | ⟨o, its, n, h1, h2, _⟩
      · cases sq
      · cases sq
      · exact ⟨"tuple", .kTuple h1 h2, k5⟩
    | scr sq =>
      rcases sq with (sq | ⟨o, sq⟩) | ⟨o, its, n, h1, h2, _⟩
      · exact ⟨"list", .base (.lst (s _ _ sq)), k6⟩
      · exact ⟨"list", .base (.frz (s _ _ sq)), k6⟩
      · exact ⟨"list", .kList h1 h2, k6⟩
    | lst sq _ _ => exact ⟨"list", .base (.lst (s _ _ sq)), k6⟩
    | dk sq _ _ _ => exact ⟨"dict", .fDict (s _ _ sq), k7⟩
    | dt sq _ _ _ => cases hd
  · subst e
    cases c with
    | lst h _ => exact ⟨"list", .base (.lst h), k6⟩
    | dk h _ => exact ⟨"dict", .base (.dK h), k7⟩
    | dt h _ => cases hd

/-- isinstance(x, T) -/
theorem ef_isi (t : KT) {T : Str} {pt : Pos} (hg : Gl X "isinstance") (hm : X.mg "isinstance" = none) (hv : bootBuiltins "isinstance" = some (.builtin "isinstance")) (hgT : Gl X T) (hmT : X.mg T = none) (hvT : bootBuiltins T = some (.type (tyN t))) (ha : EB X ea W a f)
    (hnT : T ≠ "__name__" := by decide) (hdT : (T == ("__debug__" : Str)) = false := by decide) (hn : ("isinstance" : Str) ≠ "__name__" := by decide) (hdb : (("isinstance" : Str) == ("__debug__" : Str)) = false := by decide)
    (he : starEach (a :: [.Name T pt]) X.env = (false, eval a X.env) :: starEach [.Name T pt] X.env := by rfl) (he2 : starEach [.Name T pt] X.env = (false, eval (.Name T pt) X.env) :: starEach [] X.env := by rfl) (hpl : (backTo pos (starEach [.Name T pt] X.env)).any (·.1) = false := by rfl) :
    EF X ea W (.Call (.Name "isinstance" p) [a, .Name T pt] [] pos) (un (dIsi t) f) := by
  refine PE.imp (pe_callB (call_isi (X := X)) hg hm hv (pa_cons ha (pa_cons (pe_bltn (v := .ty (tyN t)) hgT hmT hvT rfl hnT hdT) pa_nil he2) he) hn hdb he hpl) fun σ H Q ⟨ρ, G, ok, q⟩ => ?_
  refine ⟨ρ, G, ok, q.bind fun d v H1 G1 x1 m1 q1 => ?_⟩
  have q2 := q1.extF x1
  unfold dIsi at q2
  split at q2
  · exact q2.elim
  · rename_i hd
    obtain ⟨T', ty, k⟩ := tyX_of (t := t) x1.gh m1 (by simpa using hd)
    exact ⟨v, .ty (tyN t), _, _, isT t d, rfl, .ty _, ty, k, told x1.gh q2 (.bl _) rfl⟩
/-! ### methods -/
/-- a method of one value -/
def OpM (X : Cx) (T : String) (id : String) (k : D → Bool) (op : D → D → Res D) : Prop :=
  (∀ d e c, op d e ≠ .rs c) ∧ (∀ (H G : Hp) (x : V) (d : D), Same G H → RepB X.K H G x d → k d = true → tyV X.K T x H) ∧
  ∃ r, MtR X id r ∧ ∀ (H G : Hp) (x y : V) (d e z : D) (Q : VK), Same G H → RepB X.K H G x d → k d = true → RepB X.K H G y e → op d e = .ok z → (∀ v H' G', Ext H G H' G' → RepF X.K H H' G' v z → Q v H') → r x [y] H Q
theorem rd_meth {T : String} {k : D → Bool} {op : D → D → Res D} {r : V → List V → Hp → VK → Prop} (nr : ∀ d e c, op d e ≠ .rs c) (hk : ∀ (H G : Hp) (x : V) (d : D), Same G H → RepB X.K H G x d → k d = true → tyV X.K T x H)
    (ho : ∀ (H G : Hp) (x y : V) (d e z : D) (Q : VK), Same G H → RepB X.K H G x d → k d = true → RepB X.K H G y e → op d e = .ok z → (∀ v H' G', Ext H G H' G' → RepF X.K H H' G' v z → Q v H') → r x [y] H Q)
    {σ : Sg} {H : Hp} {Q : VK} (h : rd X.K ea W (mF X.K) (meth k op f g) σ H Q) : tBM X.K T r (rd X.K ea W (mB X.K) f) (tCons (rd X.K ea W (mB X.K) g) tNil) σ H Q := by
  obtain ⟨ρ, G, ok, q⟩ := h
  refine ⟨ρ, G, ok, q.bind fun d v H1 G1 x1 m1 q1 => ?_⟩
  have q1 := q1.extF x1
  split at q1
  · rename_i hkd
    refine ⟨hk H1 G1 v d x1.gh m1 hkd, ρ, G1, ok.ext x1, q1.bind fun e u H2 G2 x2 m2 q2 => ?_⟩
    have q2 := q2.extF x2
    cases r' : op d e with
    | ok z => rw [r'] at q2; exact ho H2 G2 v u d e z Q x2.gh (m1.ext x2) hkd m2 r' q2
    | rs c => exact absurd r' (nr _ _ _)
    | bad => rw [r'] at q2; exact q2.elim
  · exact q1.elim
theorem ef_m1 {T id : String} {name : Str} {k : D → Bool} {op : D → D → Res D} (pa : PlainAttrs T) (slot : PySem.Slot T name id) (hty : typeOf (.builtin id) = pure (.type "method_descriptor")) (ho : OpM X T id k op) (ha : EB X ea W a f) (hb : EB X ea W b g)
    (hbase : attributeBase a name X.env (eval a X.env) = eval a X.env := by rfl)
    (hfew : ((backTo cpos (starEach (b :: []) X.env)).all (fun x => !x.1) && (backToKw cpos (keywordEach [] X.env)).all (fun x => x.1.isSome)
      && decide ((b :: ([] : List Expr)).length + ([] : List Keyword).length + (if ([] : List Keyword).isEmpty then 0 else 1) < 30)) = true := by rfl)
    (hline : (apos.endLine == cpos.line) = true := by rfl) (hs : starEach (b :: []) X.env = (false, eval b X.env) :: starEach [] X.env := by rfl) :
    EF X ea W (.Call (.Attribute a name apos) [b] [] cpos) (meth k op f g) := by
  obtain ⟨nr, hk, r, h1, h2⟩ := ho
  exact PE.imp (pe_bm pa slot hty h1 ha (pa_cons hb pa_nil hs) hbase hfew hline hs rfl) fun σ H Q h => rd_meth nr hk h2 h
theorem kindL {H G : Hp} {x : V} {d : D} (s : Same G H) (r : RepB X.K H G x d) (h : isL d = true) : tyV X.K "list" x H := by
  cases d with
  | lst xs => obtain ⟨p, vs, rfl, hp, _⟩ := r.lst s; exact .inl ⟨rfl, vs, .inl (.inl hp)⟩
  | _ => cases h
theorem kindS {H G : Hp} {x : V} {d : D} (s : Same G H) (r : RepB X.K H G x d) (h : isS d = true) : tyV X.K "str" x H := by
  cases d with
  | str xs => obtain ⟨z, rfl, _⟩ := r.str; rfl
  | _ => cases h
/-! list.count -/
theorem countU {x : V} : ∀ {xs : List V} {us : List Value}, Vals xs us → xs.all flatV = true → us.countP (eqU x) = xs.countP fun y => eqV y x
  | _, _, .nil, _ => rfl
  | y :: xs, u :: us, .cons r t, f => by
    rw [List.all_cons, Bool.and_eq_true] at f
    rw [List.countP_cons, List.countP_cons, eqU_of r f.1, countU t f.2]
def rCnt (K : PySem.W.Frag) : V → List V → Hp → VK → Prop := fun x xs H Q => ∃ (p : Addr) (ys : List V) (y : V), x = .ref p ∧ xs = [y] ∧ SqL K H p ys ∧ flatV y = true ∧ ys.all flatV = true ∧ Q (.int ((ys.countP fun z => eqV z y : Nat) : Int)) H
theorem mt_count : MtR X "list.count" (rCnt X.K) := by
  intro pins s σ H x xs v us Q I rx rxs h
  obtain ⟨p, ys, y, rfl, rfl, hs, fy, fys, q⟩ := h
  cases rx
  obtain ⟨u, rfl, ru⟩ := rxs.one
  obtain ⟨its, rv, ⟨⟨cls, dd, data, sl⟩, n, ho, hc, hdn, hd⟩, hlen⟩ := I.list hs
  simp only at hc hd
  subst hc hd
  refine call_meets PySem.F.slot_list_count ⟨_, ho, rfl⟩ PySem.F.entry_list_count (PySem.F.args_list_count_2 _ _)
    (SeqAt.list_countAt p its.toArray n dd sl u (eqU y)) ⟨ho, fun z hz => mem_eqAt ru fy rv fys z (by simpa using hz), ?_⟩
  have ec : its.toArray.toList.countP (eqU y) = ys.countP fun z => eqV z y := countU rv fys
  refine ⟨.int ((ys.countP fun z => eqV z y : Nat) : Int), H, I.tok _, ⟨s.toks, ?_⟩, q⟩
  show Value.int ((its.toArray.toList.countP (eqU y) : Nat) : Int) s.toks = Value.int _ s.toks
  rw [ec]
theorem count_of {K : PySem.W.Frag} {H G : Hp} {x : V} {d : D} (rx : RepB K H G x d) (hd : d.flat = true) : ∀ {vs : List V} {xs : List D}, Reps K G vs xs → xs.all D.flat = true →
    vs.all flatV = true ∧ (vs.countP fun z => eqV z x) = xs.countP fun y => D.eq y d
  | vs, [], r, _ => by rw [r.nilOf]; exact ⟨rfl, rfl⟩
  | vs, y :: ys, r, h => by
    obtain ⟨v, ws, rfl, r1, r2⟩ := r.consOf
    rw [List.all_cons, Bool.and_eq_true] at h
    obtain ⟨h1, h2⟩ := count_of rx hd r2 h.2
    refine ⟨by rw [List.all_cons, h1, flatV_of (.inl r1 : RepB K H G v y) h.1]; rfl, ?_⟩
    rw [List.countP_cons, List.countP_cons, h2, eqV_of (.inl r1 : RepB K H G v y) rx h.1 hd]
theorem opm_count : OpM X "list" "list.count" isL dCount := by
  refine ⟨fun d e c h => ?_, fun H G x d s r h => kindL s r h, _, mt_count, fun H G x y d e z Q s rx hk ry h q => ?_⟩
  · unfold dCount at h; split at h <;> (try split at h) <;> cases h
  · unfold dCount at h
    split at h
    · rename_i xs
      split at h
      · rename_i hc
        cases h
        rw [Bool.and_eq_true] at hc
        obtain ⟨p, vs, rfl, hp, r⟩ := rx.lst s
        obtain ⟨h1, h2⟩ := count_of ry hc.1 r hc.2
        exact ⟨p, vs, y, rfl, rfl, .inl (.inl hp), flatV_of ry hc.1, h1, told s q (by rw [h2]; exact .int _) rfl⟩
      · cases h
    · cases h
/-! "".join -/
theorem tl_app (a b : Str) : tl (a ++ b) = tl a ++ tl b := by
  show (a.cps ++ b.cps).toList = _
  rw [Array.toList_append]
theorem tl_join (z : Str) : ∀ zs : List Str, tl (Txt.join z zs) = joinT (tl z) (zs.map tl)
  | [] => by rw [show Txt.join z [] = Str.join z [] from join_eq z []]; rfl
  | [x] => by rw [show Txt.join z [x] = Str.join z [x] from join_eq z [x]]; rfl
  | x :: y :: r => by
    rw [join_eq]
    show tl (x ++ z ++ Str.join z (y :: r)) = _
    rw [tl_app, tl_app, ← join_eq, tl_join z (y :: r)]
    rfl
theorem txts_of {K : PySem.W.Frag} {G : Hp} : ∀ {vs : List V} {xs : List D} {ys : List SR.Txt}, Reps K G vs xs → txts xs = some ys → ∃ zs : List Str, vs = zs.map V.str ∧ zs.map tl = ys
  | vs, [], ys, r, h => by rw [r.nilOf]; unfold txts at h; cases h; exact ⟨[], rfl, rfl⟩
  | vs, y :: xs, ys, r, h => by
    obtain ⟨v, ws, rfl, r1, r2⟩ := r.consOf
    cases y with
    | str x =>
      unfold txts at h
      obtain ⟨ys', h1, rfl⟩ := Option.map_eq_some_iff.mp h
      obtain ⟨zs, rfl, rfl⟩ := txts_of r2 h1
      cases r1 with | str z => exact ⟨z :: zs, rfl, rfl⟩
    | _ => unfold txts at h; cases h
theorem lens_of : ∀ zs : List Str, (zs.map (·.length)).sum = lens (zs.map tl)
  | [] => rfl
  | z :: zs => by
    show z.length + (zs.map (·.length)).sum = (tl z).length + lens (zs.map tl)
    rw [lens_of zs, len_tl]
theorem opm_join : OpM X "str" "str.join" isS dJoin := by
  refine ⟨fun d e c h => ?_, fun H G x d s r h => kindS s r h, _, mt_join, fun H G x y d e z Q s rx hk ry h q => ?_⟩
  · unfold dJoin at h; split at h <;> (try split at h) <;> (try split at h) <;> cases h
  · unfold dJoin at h
    split at h
    · split at h
      · rename_i ys hys
        split at h
        · rename_i hz
          cases h
          obtain ⟨a, rfl, rfl⟩ := rx.str
          obtain ⟨p, vs, rfl, hp, r⟩ := ry.lst s
          obtain ⟨zs, rfl, rfl⟩ := txts_of r hys
          refine ⟨a, p, zs, rfl, rfl, .inl (.inl (.inl hp)), ?_, told s q (by rw [← tl_join]; exact .str _) rfl⟩
          rw [lens_of, len_tl]
          rw [List.length_map] at hz
          exact hz
        · cases h
      · cases h
    · cases h
/-! text.index(sign) -/
theorem signIx_some {c : Nat} : ∀ {x : SR.Txt} {i : Nat}, signIx c x = some i → x[i]? = some c ∧ ∀ k, k < i → x[k]? ≠ some c
  | [], i, h => by cases h
  | d :: r, i, h => by
    unfold signIx at h
    split at h
    · rename_i e; cases h; subst e; exact ⟨rfl, fun k hk => absurd hk (Nat.not_lt_zero _)⟩
    · rename_i ne
      obtain ⟨j, hj, rfl⟩ := Option.map_eq_some_iff.mp h
      obtain ⟨h1, h2⟩ := signIx_some hj
      refine ⟨h1, fun k hk => ?_⟩
      cases k with
      | zero => exact fun e => ne (by simpa using e)
      | succ k => exact h2 k (by omega)
theorem subAt_one {x : Str} {c i : Nat} : (i + (⟨#[c]⟩ : Str).length ≤ x.length ∧ Builtin.Str.subAt x ⟨#[c]⟩ i = true) ↔ (tl x)[i]? = some c := by
  have e1 : (⟨#[c]⟩ : Str).length = 1 := rfl
  have e2 : (tl x)[i]? = x.cps[i]? := by show x.cps.toList[i]? = _; rw [Array.getElem?_toList]
  rw [e1, e2]
  unfold Builtin.Str.subAt
  rw [e1]
  constructor
  · intro ⟨h1, h2⟩
    have hl : i < x.cps.size := h1
    rw [Array.getElem?_eq_getElem hl]
    rw [beq_iff_eq] at h2
    have := congrArg (fun a : Array Nat => a[0]?) h2
    simp [Array.getElem?_extract] at this
    rw [Array.getElem?_eq_getElem hl] at this
    first | exact this | (simp at this; simp [this])
  · intro h
    obtain ⟨hl, he⟩ := Array.getElem?_eq_some_iff.mp h
    refine ⟨hl, ?_⟩
    rw [beq_iff_eq]
    apply Array.ext
    · simp; omega
    · intro j h1 h2
      have : j = 0 := by simpa using h2
      subst this
      simp [he]
theorem opm_sindex : OpM X "str" "str.index" isS dSIndex := by
  refine ⟨fun d e c h => ?_, fun H G x d s r h => kindS s r h, _, mt_sindex, fun H G x y d e z Q s rx hk ry h q => ?_⟩
  · unfold dSIndex at h; split at h <;> (try split at h) <;> cases h
  · unfold dSIndex at h
    split at h
    · rename_i xx c
      split at h
      · rename_i i hi
        cases h
        obtain ⟨a, rfl, rfl⟩ := rx.str
        obtain ⟨b, rfl, e2⟩ := ry.str
        have e2' : b = ⟨#[c]⟩ := ext_tl e2
        subst e2'
        obtain ⟨h1, h2⟩ := signIx_some hi
        rcases StrLaws.occ_head a ⟨#[c]⟩ 1 (Nat.le_refl _) with ⟨_, no⟩ | ⟨j, r, e, hj, no⟩
        · exact absurd (subAt_one.mpr h1) (no i)
        · have hj' := subAt_one.mp hj
          have : j = i := by
            rcases Nat.lt_trichotomy j i with hl | hl | hl
            · exact absurd hj' (h2 j hl)
            · exact hl
            · exact absurd (subAt_one.mpr h1) (no i hl)
          subst this
          exact ⟨a, _, j, r, rfl, rfl, e, told s q (.int _) rfl⟩
      · cases h
    · cases h
/-! a dict that stands at the program's top -/
structure KMap (K : PySem.W.Frag) (w : World) (p : Addr) (ps : List (SR.Txt × D)) : Prop where
  ob : ∃ es n, K.lookup p = some ⟨.type "dict", none, .dict es n, #[]⟩ ∧ PySem.W.KeysLit w.params es.toList
  low : (p == sysModules) = false
  at_ : ∀ z : Str, (lookT ps (tl z) = none ∧ PySem.W.nsIn K p z = some none) ∨ ∃ d v u, lookT ps (tl z) = some d ∧ PySem.W.nsIn K p z = some (some u) ∧ RelV v u ∧ ∀ G, Rep K G v d
def tKGet2 (K : PySem.W.Frag) (w : World) (td ty tx : TE) : TE := fun σ H Q => td σ H fun x H1 => ∃ p ps, x = .ref p ∧ KMap K w p ps ∧ ty σ H1 fun y H2 => tx σ H2 fun z H3 => ∃ k, y = .str k ∧ (lookT ps (tl k) = none → Q z H3) ∧ ∀ d v, lookT ps (tl k) = some d → (∀ G, Rep K G v d) → Q v H3
theorem pe_kget2 {o c : Expr} {td ty tx : TE} (ho : PE X o td) (hb : PE X b ty) (hc : PE X c tx) (m : M2 X o "get" apos b c cpos) : PE X (.Call (.Attribute o "get" apos) [b, c] [] cpos) (tKGet2 X.K X.w td ty tx) := by
  refine ⟨fun pins s σ H Q I h => ?_⟩
  refine wpAny_Call_method m.base m.few m.line PySem.F.plainAttrs_dict PySem.F.slot_dict_get PySem.F.type_dict_get (thn (ho.run pins s σ H _ I h) fun u s1 ⟨x, H1, I1, rx, p, ps, ex, km, q1⟩ => ?_)
  subst ex
  obtain rfl : u = Value.ref p := rx
  obtain ⟨es, n, hl, hk⟩ := km.ob
  have hm1 := PySem.W.mapOf_K (prog := X.prog) (w := X.w) I1.kIn hl hk
  refine ⟨hm1.typeIs, fun a e => ?_, ?_⟩
  · cases e
    exact ⟨_, I1.kIn _ _ hl, rfl⟩
  rw [m.trees]
  refine Calls.callWith_builtin rfl (Calls.evalArgs_plain (Calls.spliced_cons (thn (hb.run pins s1 σ H1 _ I1 q1) fun iv s2 ⟨y, H2, I2, ry, q2⟩ =>
    Calls.spliced_cons (thn (hc.run pins s2 σ H2 _ I2 q2) fun fv s3 ⟨z, H3, I3, rz, k, ek, q3⟩ => Calls.spliced_nil ?_))))
  subst ek
  obtain ⟨t, rfl⟩ := ry
  have hm3 := PySem.W.mapOf_K (prog := X.prog) (w := X.w) I3.kIn hl hk
  refine call_meetsIn PySem.F.slot_dict_get hm3.typeIs PySem.F.entry_dict_get (PySem.F.args_dict_get_3 _ _ _) (meets_dict_get_default (strKind X.prog X.w) p (strKind_is X.prog X.w k t) km.low fv) ⟨_, hm3, ?_⟩
  rcases km.at_ k with ⟨l1, l2⟩ | ⟨d, v, u, l1, l2, ru, rv⟩
  · refine ⟨z, H3, I3.tok _, ?_, q3.1 l1⟩
    rw [PySem.W.find_K hl l2]
    exact rz
  · refine ⟨v, H3, I3.tok _, ?_, q3.2 d v l1 rv⟩
    rw [PySem.W.find_K hl l2]
    exact ru
theorem ef_kget2 {o b c : Expr} {pp : Addr} {ps : List (SR.Txt × D)} (ho : PE X o (tC (.ref pp))) (km : KMap X.K X.w pp ps) (imm : ∀ q ∈ ps, q.2.mut = false) (hb : EB X ea W b f) (hc : EB X ea W c g) (m : M2 X o "get" apos b c cpos)
    (hz : ∀ ρ d, g ρ = .ok d → d.mut = false) : EF X ea W (.Call (.Attribute o "get" apos) [b, c] [] cpos) (SR.bin (dKGet ps) f g) := by
  refine PE.imp (pe_kget2 ho hb hc m) fun σ H Q ⟨ρ, G, ok, q⟩ => ?_
  refine ⟨pp, ps, rfl, km, ρ, G, ok, q.bind fun d v H1 G1 x1 m1 q1 => ⟨ρ, G1, ok.ext x1, ?_⟩⟩
  have q1 := q1.extF x1
  cases r : g ρ with
  | bad => rw [r] at q1; exact q1.elim
  | rs c => rw [r] at q1; exact q1
  | ok e =>
    rw [r] at q1
    intro u H2 G2 x2 m2
    have q2 := rdX.extF x2 q1
    simp only [ok_bind] at q2
    cases d with
    | str y =>
      obtain ⟨k, rfl, rfl⟩ := RepB.str m1
      refine ⟨k, rfl, fun l => ?_, fun d v l rv => ?_⟩
      · unfold dKGet at q2
        simp only [l, Option.getD_none] at q2
        exact told x2.gh q2 (RepB.rep m2 (hz ρ e r)) (hz ρ e r)
      · unfold dKGet at q2
        simp only [l, Option.getD_some] at q2
        have hm : (d.mut) = false := by
          unfold lookT at l
          obtain ⟨q, hq, rfl⟩ := Option.map_eq_some_iff.mp l
          exact imm q (List.mem_of_find?_eq_some hq)
        exact told x2.gh q2 (rv G2) hm
    | _ => exact q2.elim
/-! displays of dicts -/
def RepPs (K : PySem.W.Frag) (G : Hp) : List (V × V) → List (D × D) → Prop := Paired fun p q => Rep K G p.1 q.1 ∧ Rep K G p.2 q.2
theorem RepPs.same {K : PySem.W.Frag} {G G' : Hp} (s : Same G G') : ∀ {vs : List (V × V)} {ps : List (D × D)}, RepPs K G vs ps → RepPs K G' vs ps
  | _, _, .nil => .nil
  | _, _, .cons h t => .cons ⟨h.1.same s, h.2.same s⟩ (RepPs.same s t)
def rdPsX (K : PySem.W.Frag) (ea : EA) (W : WX) (r : Res (List (D × D))) (σ : Sg) (H G : Hp) (Q : List (V × V) → Hp → Prop) : Prop := match r with
  | .ok ps => ∀ vs H' G', Ext H G H' G' → RepPs K G' vs ps → Q vs H'
  | .rs c => ∀ H' G', Ext H G H' G' → W (.ref (ea c)) none σ H'
  | .bad => False
theorem rdPsX.ext {r : Res (List (D × D))} {σ : Sg} {H G H1 G1 : Hp} {Q : List (V × V) → Hp → Prop} (x : Ext H G H1 G1) (q : rdPsX X.K ea W r σ H G Q) : rdPsX X.K ea W r σ H1 G1 Q := by
  cases r with
  | ok d => exact fun v H' G' x' k => q v H' G' (x.trans x') k
  | rs c => exact fun H' G' x' => q H' G' (x.trans x')
  | bad => exact q
structure EPs (X : Cx) (ea : EA) (W : WX) (pos : Pos) (keys : List (Option Expr)) (values : List Expr) (r : PX) : Prop where
  ex : ∃ trs, PPs X pos keys values trs ∧ ∀ (σ : Sg) (H : Hp) (Q : List (V × V) → Hp → Prop), (∃ ρ G, EnvOk X.K ρ σ H G ∧ rdPsX X.K ea W (r ρ) σ H G Q) → tPairs trs σ H Q
theorem eps_nil : EPs X ea W pos [] [] pnil := ⟨_, pps_nil, fun σ H Q ⟨ρ, G, ok, q⟩ => q [] H G (.refl ok.gh) .nil⟩
theorem eps_cons {kx vx : Expr} {ks : List (Option Expr)} {vs : List Expr} {r : PX} (hk : EG X ea W kx f) (hv : EG X ea W vx g) (hr : EPs X ea W pos ks vs r) : EPs X ea W pos (some kx :: ks) (vx :: vs) (pcons f g r) := by
  obtain ⟨trs, h1, h2⟩ := hr
  refine ⟨_, pps_cons hk hv h1, fun σ H Q ⟨ρ, G, ok, q⟩ => ?_⟩
  unfold pcons at q
  refine ⟨ρ, G, ok, ?_⟩
  cases e1 : f ρ with
  | bad => rw [e1] at q; exact q
  | rs c => rw [e1] at q; exact q
  | ok d =>
    rw [e1] at q
    intro v H1 G1 x1 m1
    have q := rdPsX.ext x1 q
    simp only [ok_bind] at q
    refine ⟨ρ, G1, ok.ext x1, ?_⟩
    cases e2 : g ρ with
    | bad => rw [e2] at q; exact q
    | rs c => rw [e2] at q; exact q
    | ok e =>
      rw [e2] at q
      intro u H2 G2 x2 m2
      have q := rdPsX.ext x2 q
      simp only [ok_bind] at q
      refine h2 σ H2 _ ⟨ρ, G2, (ok.ext x1).ext x2, ?_⟩
      cases e3 : r ρ with
      | bad => rw [e3] at q; exact q
      | rs c => rw [e3] at q; exact q
      | ok ps =>
        rw [e3] at q
        intro ws H3 G3 x3 m3
        exact q _ H3 G3 x3 (.cons ⟨(Rep.same x2.gg m1).same x3.gg, Rep.same x3.gg m2⟩ m3)
theorem keyPs {K : PySem.W.Frag} {G : Hp} : ∀ {vs : List (V × V)} {ps : List (D × D)}, RepPs K G vs ps → (ps.all fun p => fitK false p.1) = true →
    ∃ kvs : List (Key × V), vs = kvs.map (fun kv => (kV kv.1, kv.2)) ∧ kvs.length = ps.length ∧ ∀ (acc : List (Key × V)) (ds : List (D × D)), RepK K G acc ds → RepK K G (kvs.foldl (fun acc kv => putK acc kv.1 kv.2) acc) (ps.foldl (fun acc p => putD acc p.1 p.2) ds)
  | _, _, .nil, _ => ⟨[], rfl, rfl, fun _ _ h => h⟩
  | _, _, @Paired.cons _ _ _ p q vs ps h t, hf => by
    rw [List.all_cons, Bool.and_eq_true] at hf
    obtain ⟨kvs, rfl, hl, hh⟩ := keyPs t hf.2
    obtain ⟨kk, e1, e2⟩ := flat_key (H := G) (G := G) hf.1 h.1.b
    obtain ⟨p1, p2⟩ := p
    obtain ⟨q1, q2⟩ := q
    simp only at e1 e2
    subst e1; subst e2
    refine ⟨(kk, p2) :: kvs, rfl, by simp [hl], fun acc ds hd => ?_⟩
    exact hh _ _ (repK_put hd h.2)
theorem ef_dct {keys : List (Option Expr)} {values : List Expr} {r : PX} (h : EPs X ea W pos keys values r) (hall : keys.all (·.isSome) = true := by rfl) (hl : keys.length = values.length := by rfl) (h0 : keys ≠ [] := by exact fun e => nomatch e) (h15 : keys.length ≤ 15 := by decide) :
    EF X ea W (.Dict keys values pos) (dctE r) := by
  obtain ⟨trs, h1, h2⟩ := h
  refine PE.imp (pe_disp h1 hall hl h0 h15) fun σ H Q ⟨ρ, G, ok, q⟩ p hp => ?_
  have x0 : Ext H G (upd H p (.dK [])) G := Ext.newO ok.gh hp
  refine h2 σ _ _ ⟨ρ, G, ok.ext x0, ?_⟩
  unfold dctE at q
  cases e : r ρ with
  | bad => rw [e] at q; exact q
  | rs c => rw [e] at q; exact fun H1 G1 x1 => q H1 G1 (x0.trans x1)
  | ok ps =>
    rw [e] at q
    intro vs H2 G2 x2 m2
    simp only [ok_bind] at q
    split at q
    · rename_i hc
      rw [Bool.and_eq_true, decide_eq_true_eq] at hc
      obtain ⟨kvs, rfl, hkl, hh⟩ := keyPs m2 hc.1
      have h2p : H2 p = some (.dK []) := x2.hh _ _ upd_same
      have g2 : G2 p = none := x2.out p (by rw [upd_same]; trivial) (same_none ok.gh hp)
      refine ⟨h2p, kvs, rfl, by rw [hkl]; exact hc.2, ?_⟩
      have x3 : Ext H G (upd H2 p (.dK (mergeK [] kvs))) G2 := by
        have x02 := x0.trans x2
        have gne : ∀ a o, G2 a = some o → a ≠ p := fun a o e z => by subst z; rw [g2] at e; cases e
        exact ⟨fun a o e => by rw [upd_ne (ne_of_none e hp)]; exact x02.hh a o e, x02.gg, fun a o e => by rw [upd_ne (gne a o e)]; exact x02.gh a o e, x02.out⟩
      exact q _ _ G2 x3 (.inr ⟨p, rfl, hp, g2, .dk upd_same (hh [] [] ⟨rfl, fun i p q e _ => by simp at e⟩)⟩)
    · exact q.elim
/-- {} -/
def dctN (t : Bool) : EX := con (.dct t [])
theorem ef_dnew : EF X ea W (.Dict [] [] pos) (dctN false) := PE.imp pe_dnewK fun σ H Q ⟨ρ, G, ok, q⟩ p hp =>
  q _ _ G (Ext.newO ok.gh hp) (.inr ⟨p, rfl, hp, same_none ok.gh hp, .dk upd_same ⟨rfl, fun i p q e _ => by simp at e⟩⟩)
theorem ef_dnewT : EF X ea W (.Dict [] [] pos) (dctN true) := PE.imp pe_dnewT fun σ H Q ⟨ρ, G, ok, q⟩ p hp =>
  q _ _ G (Ext.newO ok.gh hp) (.inr ⟨p, rfl, hp, same_none ok.gh hp, .dt upd_same ⟨rfl, fun i p q e _ => by simp at e⟩⟩)
end
end SR

set_option linter.all false
set_option autoImplicit false
set_option Elab.async false
set_option maxRecDepth 100000
set_option maxHeartbeats 1000000
/-! SRj: raise, try. -/
namespace SR
open PySem PySem.Spec PyProof.Rows L2 TL RZ
/-- a class of exceptions of the program -/
structure ExcC (K : PySem.W.Frag) (mg : Str → Option Value) (C : Addr) (x : Str) : Prop where
  nm : mg x = some (.ref C)
  ex : PySem.W.excIn K C [.type "ValueError", .type "Exception", .type "BaseException", .type "object"] "ValueError.__new__" = true
  kp : PySem.W.keepIn K (.ref C) = true
  r1 : PySem.W.subIn K (.ref C) (.type "BaseException") = some true
  r2 : PySem.W.typeIn K (.ref C) = some (.type "type")
section
variable {X : Cx} {ea : EA} {W : WX} {m : Mode} {e a b : Expr} {p pos apos cpos : Pos} {f g : EX} {s : SX} {x : Str} {body : List Stmt}
/-- raise X("..") -/
theorem es_raise {c : Exc} (hc : X.calm = true) (tk : Takes X W) (C : ExcC X.K X.mg (ea c) x) (hg : Gl X x) {z : Str} {j : Nat} {pz : Pos}
    (hs : starEach [.Constant (.str z) j pz] X.env = (false, eval (.Constant (.str z) j pz) X.env) :: starEach [] X.env := by rfl) (hdb : (x == ("__debug__" : Str)) = false := by decide) :
    ES X ea W m (.Raise (some (.Call (.Name x p) [.Constant (.str z) j pz] [] pos)) none cpos) (sRs c) :=
  PS.imp (ps_raise hc tk (SkE.pmk_own1 PySem.F.excBase_ValueError C.ex C.nm C.kp (raises_own C.r1 C.r2) hg pe_str hs hdb)) fun D σ H ⟨ρ, H0, G0, G, ok, q⟩ => q σ H G ok (Same.refl _)
/-- a clause of a try -/
structure Hd (X : Cx) (ea : EA) (m : Mode) (cs : List Exc) (hs : List ExceptHandler) (fs : List (Exc × SX)) : Prop where
  ex : ∃ l, HdsOk X hs l ∧ Paired (fun (p : Value × (Addr → Value → Option Addr → TS)) (q : Exc × SX) => (∀ c ∈ cs, PySem.W.exmOne X.K (.ref (ea c)) p.1 = some (catches q.1 c)) ∧ ∀ a cls d D σ H, rdS X.K ea W0 m q.2 D σ H → p.2 a cls d D σ H) l fs
theorem hd_nil {cs : List Exc} : Hd X ea m cs [] [] := ⟨[], .nil, .nil⟩
theorem hd_cons {cs : List Exc} {c : Value} {h : Exc} {b₀ : Stmt} {suite : List Stmt} {np pos' : Pos} {hs : List ExceptHandler} {fs : List (Exc × SX)} (hc : Names X x c) (hm : ∀ c' ∈ cs, PySem.W.exmOne X.K (.ref (ea c')) c = some (catches h c'))
    (hsu : ∀ (a : Addr) (pn : List (Addr × Obj)), ESs (X.suite a pn) ea W0 m (b₀ :: suite) s) (r : Hd X ea m cs hs fs) : Hd X ea m cs (.ExceptHandler (some (.Name x np)) none (b₀ :: suite) pos' :: hs) ((h, s) :: fs) := by
  obtain ⟨l, h1, h2⟩ := r
  exact ⟨_, .cons (ts := fun _ _ _ => rdS X.K ea W0 m s) hc (fun a oe cls d pn _ _ => hsu a _) h1, .cons ⟨hm, fun _ _ _ _ _ _ h => h⟩ h2⟩
theorem wmany_of {K : PySem.W.Frag} {cs : List Exc} {D : Ends} {c : Exc} {ρ : SR.Env} {σ : Sg} {H0 G0 H G : Hp} (hc : c ∈ cs) (ok : StOk K H0 G0 ρ σ H G) : ∀ {l : List (Value × (Addr → Value → Option Addr → TS))} {fs : List (Exc × SX)},
    Paired (fun (p : Value × (Addr → Value → Option Addr → TS)) (q : Exc × SX) => (∀ c ∈ cs, PySem.W.exmOne K (.ref (ea c)) p.1 = some (catches q.1 c)) ∧ ∀ a cls d D σ H, rdS K ea W0 m q.2 D σ H → p.2 a cls d D σ H) l fs →
    rdSX K ea W m (tryH fs c ρ) H0 G0 G D → wMany K W D l (.ref (ea c)) none σ H
  | _, _, .nil, q => by
    unfold tryH at q
    exact q σ H G ok (Same.refl _)
  | _, _, @Paired.cons _ _ _ p f l fs h t, q => by
    obtain ⟨h0, s⟩ := f
    refine ⟨catches h0 c, h.1 c hc, fun e a _ => ?_, fun e => ?_⟩
    · unfold tryH at q
      rw [if_pos e] at q
      refine h.2 _ _ _ _ _ _ ⟨ρ, H0, G0, G, ok, ?_⟩
      show rdSX K ea W0 m (s ρ) H0 G0 G D
      cases r : s ρ with
      | rs c ρ' => rw [r] at q; exact q.elim
      | nx ρ' => rw [r] at q; exact q
      | bk ρ' => rw [r] at q; exact q
      | ct ρ' => rw [r] at q; exact q
      | rt d => rw [r] at q; exact q
      | bad => rw [r] at q; exact q
    · unfold tryH at q
      rw [if_neg (by rw [e]; exact Bool.false_ne_true)] at q
      exact wmany_of hc ok t q
theorem es_try {cs : List Exc} {h₀ : ExceptHandler} {hds : List ExceptHandler} {fs : List (Exc × SX)} (hs : X.stack = X.env :: X.outer) (hf : X.env.frame = some X.env.locals) (tk : Takes X W)
    (hb : ∀ (W : WX) (pn : List (Addr × Obj)) (xe : Value → Shared → Prop), Takes (X.tr pn xe) W → PassesOwn (model X.prog X.w) X.A X.env xe → ESs (X.tr pn xe) ea W m body s)
    (hh : Hd X ea m cs (h₀ :: hds) fs) : ES X ea W m (.Try body (h₀ :: hds) [] [] pos) (sTry cs s fs) := by
  obtain ⟨l, h1, h2⟩ := hh
  refine PS.imp (ps_try_many (tb := fun W => rdS X.K ea W m s) hs hf tk hb h1) fun D σ H ⟨ρ, H0, G0, G, ok, q⟩ => ⟨ρ, H0, G0, G, ok, ?_⟩
  unfold sTry at q
  cases r : s ρ with
  | rs c ρ' =>
    rw [r] at q
    simp only at q
    split at q
    · rename_i hc
      exact fun σ' H' G' ok' sm => wmany_of (by simpa using hc) ok' h2 (q.same sm)
    · exact q.elim
  | nx ρ' => rw [r] at q; exact q
  | bk ρ' => rw [r] at q; exact q
  | ct ρ' => rw [r] at q; exact q
  | rt d => rw [r] at q; exact q
  | bad => rw [r] at q; exact q
end
end SR

set_option linter.all false
set_option autoImplicit false
set_option Elab.async false
set_option maxRecDepth 100000
set_option maxHeartbeats 1000000
/-! SRk: the rules in short, side facts by the kernel. -/
namespace SR
open PySem PySem.Spec PyProof.Rows L2 TL RZ
def visB (sc : Scope) (x : Str) : Bool := match sc.names.lookup x with
  | some .local => true | some .cell => true | some .free => true | _ => false
def locB (sc : Scope) (x : Str) : Bool := match sc.names.lookup x with
  | some .local => true | some .cell => true | _ => false
theorem visB_of {sc : Scope} {x : Str} (h : visB sc x = true) : Vis sc x := by
  unfold visB at h
  split at h
  · rename_i e; exact .inl e
  · rename_i e; exact .inr (.inl e)
  · rename_i e; exact .inr (.inr e)
  · cases h
theorem locB_of {sc : Scope} {x : Str} (h : locB sc x = true) : Loc sc x := by
  unfold locB at h
  split at h
  · rename_i e; exact .inl e
  · rename_i e; exact .inr e
  · cases h
def atB (X : Cx) (i : Nat) (x : Str) : Bool := decide (X.N[i]? = some x)
def okV (X : Cx) (i : Nat) (x : Str) : Bool := atB X i x && (visB X.env.scope x && (!(x == ("__debug__" : Str)) && !(x == ("__classdict__" : Str))))
structure OkV (X : Cx) (i : Nat) (x : Str) : Prop where
  at_ : X.N[i]? = some x
  vis : Vis X.env.scope x
  d1 : (x == ("__debug__" : Str)) = false
  d2 : (x == ("__classdict__" : Str)) = false
theorem okV_of {X : Cx} {i : Nat} {x : Str} (h : okV X i x = true) : OkV X i x := by
  unfold okV at h
  simp only [Bool.and_eq_true, Bool.not_eq_true'] at h
  exact ⟨of_decide_eq_true h.1, visB_of h.2.1, h.2.2.1, h.2.2.2⟩
/-- a local that is set -/
def okS (X : Cx) (i : Nat) (x : Str) : Bool := atB X i x && locB X.env.scope x
structure OkS (X : Cx) (i : Nat) (x : Str) : Prop where
  at_ : X.N[i]? = some x
  loc : Loc X.env.scope x
theorem okS_of {X : Cx} {i : Nat} {x : Str} (h : okS X i x = true) : OkS X i x := by
  unfold okS at h
  rw [Bool.and_eq_true] at h
  exact ⟨of_decide_eq_true h.1, locB_of h.2⟩
def glB (X : Cx) (x : Str) : Bool := (match X.env.kindOf x with | some .globalImplicit => true | _ => false) && (!(x == ("__debug__" : Str)) && !(x == ("__name__" : Str)))
structure GlB (X : Cx) (x : Str) : Prop where
  gl : Gl X x
  d1 : (x == ("__debug__" : Str)) = false
  d2 : x ≠ "__name__"
theorem glB_of {X : Cx} {x : Str} (h : glB X x = true) : GlB X x := by
  unfold glB at h
  simp only [Bool.and_eq_true, Bool.not_eq_true'] at h
  refine ⟨?_, h.2.1, fun e => by subst e; simp at h⟩
  have h1 := h.1
  show X.env.kindOf x = _
  split at h1
  · assumption
  · cases h1
def blkB (N : List Str) (sc scope : Scope) (own : List (Str × Nat)) : Bool :=
  (decide (scope.kind = .function) && scope.names.all fun y => decide (scope.names.lookup y.1 = some y.2)) && (own.all (fun p => decide (N[p.2]? = some p.1)) &&
    (scope.names.all (fun y => !decide (y.2 = .free) || (match sc.names.lookup y.1 with | some .cell => true | some .free => true | _ => false)) &&
     scope.names.all (fun y => !(decide (y.2 = .local) || decide (y.2 = .cell)) || (own.any (fun p => decide (p.1 = y.1)) || !N.any (fun z => decide (z = y.1))))))
theorem blkB_of {N : List Str} {sc scope : Scope} {own : List (Str × Nat)} (h : blkB N sc scope own = true) : BlkOk N sc scope own := by
  unfold blkB at h
  simp only [Bool.and_eq_true, List.all_eq_true, decide_eq_true_eq] at h
  obtain ⟨⟨h1, h2⟩, h3, h4, h5⟩ := h
  refine ⟨h1, h2, h3, fun y hy e => ?_, fun y hy e => ?_⟩
  · have := h4 y hy
    rw [e] at this
    simp only [decide_true, Bool.not_true, Bool.false_or] at this
    split at this
    · rename_i q; exact .inl q
    · rename_i q; exact .inr q
    · cases this
  · have := h5 y hy
    have e' : (decide (y.2 = .local) || decide (y.2 = .cell)) = true := by
      rcases e with e | e <;> simp [e]
    rw [e'] at this
    simp only [Bool.not_true, Bool.false_or, Bool.or_eq_true, List.any_eq_true, decide_eq_true_eq, Bool.not_eq_true', List.any_eq_false] at this
    rcases this with ⟨p, hp, q⟩ | q
    · exact .inl (List.mem_map.mpr ⟨p, hp, q⟩)
    · exact .inr fun hm => q _ hm rfl
theorem _root_.L2.Room.u65 {k : Nat} {A : Around} (r : Room k A) : A.units + 65 < cLine := by have := r.un; omega
theorem _root_.L2.Room.u1 {k : Nat} {A : Around} (r : Room k A) : A.units + 1 < cLine := by have := r.un; omega
section
variable {X : Cx} {ea : EA} {W : WX} {m : Mode} {e a b : Expr} {es : List Expr} {p pos pos' apos cpos : Pos} {f g : EX} {s : SX} {x y : Str} {i j : Nat}
theorem v_eg (i : Nat) (h : okV X i x = true := by kernel_rfl) : EG X ea W (.Name x pos) (var i) := let o := okV_of h; eg_var o.at_ o.vis o.d1 o.d2
theorem v_eb (i : Nat) (h : okV X i x = true := by kernel_rfl) : EB X ea W (.Name x pos) (varB i) := let o := okV_of h; eb_var o.at_ o.vis o.d1 o.d2
theorem c_gint {i : Int} (hm : ∃ t, X.mg x = some (.int i t)) (h : glB X x = true := by kernel_rfl) : EF X ea W (.Name x pos) (con (.int i)) := by
  obtain ⟨t, hm⟩ := hm
  exact ef_gint (glB_of h).gl hm (glB_of h).d1
theorem c_gstr {y : SR.Txt} (hm : ∃ z t, X.mg x = some (.str z t) ∧ tl z = y) (h : glB X x = true := by kernel_rfl) : EF X ea W (.Name x pos) (con (.str y)) := by
  obtain ⟨z, t, hm, e⟩ := hm
  exact ef_gstr (glB_of h).gl hm e (glB_of h).d1
theorem c_str {z : Str} {y : SR.Txt} {j : Nat} (h : tl z = y := by kernel_rfl) : EF X ea W (.Constant (.str z) j pos) (con (.str y)) := ef_str h
theorem boot_isi : bootBuiltins "isinstance" = some (.builtin "isinstance") := by boot_by_name
theorem boot_t_int : bootBuiltins "int" = some (.type "int") := by boot_by_name
theorem boot_t_bool : bootBuiltins "bool" = some (.type "bool") := by boot_by_name
theorem boot_t_str : bootBuiltins "str" = some (.type "str") := by boot_by_name
theorem boot_t_tuple : bootBuiltins "tuple" = some (.type "tuple") := by boot_by_name
theorem boot_t_list : bootBuiltins "list" = some (.type "list") := by boot_by_name
/-- built-in functions, types -/
def blt (x : Str) (v : Value) : Prop := bootBuiltins x = some v
theorem b_len (hm : X.mg "len" = none) (ha : EB X ea W a f) (h : glB X "len" = true := by kernel_rfl) (he : starEach (a :: []) X.env = (false, eval a X.env) :: starEach [] X.env := by rfl) : EF X ea W (.Call (.Name "len" p) [a] [] pos) (un dLen f) := ef_b1 opu_len (glB_of h).gl hm PySem.boot_len ha (glB_of h).d2 (glB_of h).d1 he
theorem b_int (hm : X.mg "int" = none) (ha : EB X ea W a f) (h : glB X "int" = true := by kernel_rfl) (he : starEach (a :: []) X.env = (false, eval a X.env) :: starEach [] X.env := by rfl) : EF X ea W (.Call (.Name "int" p) [a] [] pos) (un dInt f) := ef_t1 opu_int (glB_of h).gl hm boot_t_int ha (glB_of h).d2 (glB_of h).d1 he
theorem b_tuple (hm : X.mg "tuple" = none) (ha : EB X ea W a f) (h : glB X "tuple" = true := by kernel_rfl) (he : starEach (a :: []) X.env = (false, eval a X.env) :: starEach [] X.env := by rfl) : EF X ea W (.Call (.Name "tuple" p) [a] [] pos) (un dTuple f) := ef_t1 opu_tuple (glB_of h).gl hm boot_t_tuple ha (glB_of h).d2 (glB_of h).d1 he
theorem b_list (hc : X.calm = true) (hm : X.mg "list" = none) (ha : EB X ea W a f) (h : glB X "list" = true := by kernel_rfl) (he : starEach (a :: []) X.env = (false, eval a X.env) :: starEach [] X.env := by rfl) : EF X ea W (.Call (.Name "list" p) [a] [] pos) (un dList f) := ef_t1 (opu_list hc) (glB_of h).gl hm boot_t_list ha (glB_of h).d2 (glB_of h).d1 he
theorem boot_ty : ∀ t : KT, bootBuiltins (Str.ofString (tyN t)) = some (.type (tyN t))
  | .int => boot_t_int
  | .bool => boot_t_bool
  | .str => boot_t_str
  | .tuple => boot_t_tuple
  | .list => boot_t_list
theorem b_isi (t : KT) {pt : Pos} (hm : X.mg "isinstance" = none) (hmT : X.mg (Str.ofString (tyN t)) = none) (ha : EB X ea W a f) (h : glB X "isinstance" = true := by kernel_rfl) (h2 : glB X (Str.ofString (tyN t)) = true := by kernel_rfl)
    (he : starEach (a :: [.Name (Str.ofString (tyN t)) pt]) X.env = (false, eval a X.env) :: starEach [.Name (Str.ofString (tyN t)) pt] X.env := by rfl) :
    EF X ea W (.Call (.Name "isinstance" p) [a, .Name (Str.ofString (tyN t)) pt] [] pos) (un (dIsi t) f) :=
  ef_isi t (glB_of h).gl hm boot_isi (glB_of h2).gl hmT (boot_ty t) ha (glB_of h2).d2 (glB_of h2).d1 (glB_of h).d2 (glB_of h).d1 he rfl rfl
/-- methods -/
theorem m_count (ha : EB X ea W a f) (hb : EB X ea W b g) (hbase : attributeBase a "count" X.env (eval a X.env) = eval a X.env := by rfl) (hfew : ((backTo cpos (starEach (b :: []) X.env)).all (fun x => !x.1) && (backToKw cpos (keywordEach [] X.env)).all (fun x => x.1.isSome)
      && decide ((b :: ([] : List Expr)).length + ([] : List Keyword).length + (if ([] : List Keyword).isEmpty then 0 else 1) < 30)) = true := by rfl) (hline : (apos.endLine == cpos.line) = true := by rfl)
    (hs : starEach (b :: []) X.env = (false, eval b X.env) :: starEach [] X.env := by rfl) : EF X ea W (.Call (.Attribute a "count" apos) [b] [] cpos) (meth isL dCount f g) := ef_m1 PySem.F.plainAttrs_list PySem.F.slot_list_count PySem.F.type_list_count opm_count ha hb hbase hfew hline hs
theorem m_join (ha : EB X ea W a f) (hb : EB X ea W b g) (hbase : attributeBase a "join" X.env (eval a X.env) = eval a X.env := by rfl) (hfew : ((backTo cpos (starEach (b :: []) X.env)).all (fun x => !x.1) && (backToKw cpos (keywordEach [] X.env)).all (fun x => x.1.isSome)
      && decide ((b :: ([] : List Expr)).length + ([] : List Keyword).length + (if ([] : List Keyword).isEmpty then 0 else 1) < 30)) = true := by rfl) (hline : (apos.endLine == cpos.line) = true := by rfl)
    (hs : starEach (b :: []) X.env = (false, eval b X.env) :: starEach [] X.env := by rfl) : EF X ea W (.Call (.Attribute a "join" apos) [b] [] cpos) (meth isS dJoin f g) := ef_m1 PySem.F.plainAttrs_str PySem.F.slot_str_join PySem.F.type_str_join opm_join ha hb hbase hfew hline hs
theorem m_sindex (ha : EB X ea W a f) (hb : EB X ea W b g) (hbase : attributeBase a "index" X.env (eval a X.env) = eval a X.env := by rfl) (hfew : ((backTo cpos (starEach (b :: []) X.env)).all (fun x => !x.1) && (backToKw cpos (keywordEach [] X.env)).all (fun x => x.1.isSome)
      && decide ((b :: ([] : List Expr)).length + ([] : List Keyword).length + (if ([] : List Keyword).isEmpty then 0 else 1) < 30)) = true := by rfl) (hline : (apos.endLine == cpos.line) = true := by rfl)
    (hs : starEach (b :: []) X.env = (false, eval b X.env) :: starEach [] X.env := by rfl) : EF X ea W (.Call (.Attribute a "index" apos) [b] [] cpos) (meth isS dSIndex f g) := ef_m1 PySem.F.plainAttrs_str PySem.F.slot_str_index PySem.F.type_str_index opm_sindex ha hb hbase hfew hline hs
/-- statements -/
theorem s_set (nd : X.N.Nodup) (i : Nat) (he : EG X ea W e f) (h : okS X i x = true := by kernel_rfl) (hs : swapsWith e (some (.Name x pos')) pos.line X.env = pure false := by kernel_rfl) (hf : X.fn x = true := by rfl) :
    ES X ea W m (.Assign [.Name x pos'] e pos) (sSet i f) := es_set nd (okS_of h).at_ (okS_of h).loc he hs (.inl hf)
theorem s_own (nd : X.N.Nodup) (i : Nat) (he : EF X ea W e f) (h : okS X i x = true := by kernel_rfl) (hs : swapsWith e (some (.Name x pos')) pos.line X.env = pure false := by kernel_rfl) (hf : X.fn x = true := by rfl) :
    ES X ea W m (.Assign [.Name x pos'] e pos) (sOwn i f) := es_own nd (okS_of h).at_ (okS_of h).loc he hs (.inl hf)
theorem s_mv (nd : X.N.Nodup) (i j : Nat) {py : Pos} (h : okS X i x = true := by kernel_rfl) (h2 : okV X j y = true := by kernel_rfl) (hf : X.fn x = true := by rfl) :
    ES X ea W m (.Assign [.Name x pos'] (.Name y py) pos) (sMv i j) := let o := okV_of h2; es_mv nd (okS_of h).at_ (okS_of h).loc o.at_ o.vis o.d1 o.d2 (.inl hf)
theorem s_retV (i : Nat) {py : Pos} (h : okV X i x = true := by kernel_rfl) : ES X ea W (mG X.K) (.Return (some (.Name x py)) pos) (sRetV i) := let o := okV_of h; es_retV o.at_ o.vis o.d1 o.d2
theorem s_retF (i : Nat) {py : Pos} (h : okV X i x = true := by kernel_rfl) : ES X ea W (mF X.K) (.Return (some (.Name x py)) pos) (sRetF i) := let o := okV_of h; es_retVF o.at_ o.vis o.d1 o.d2
theorem s_app (i : Nat) {px : Pos} (he : EG X ea W e f) (h : okV X i x = true := by kernel_rfl) (hfew : ((backTo cpos (starEach (e :: []) X.env)).all (fun x => !x.1) && (backToKw cpos (keywordEach [] X.env)).all (fun x => x.1.isSome)
      && decide ((e :: ([] : List Expr)).length + ([] : List Keyword).length + (if ([] : List Keyword).isEmpty then 0 else 1) < 30)) = true := by rfl) (hline : (apos.endLine == cpos.line) = true := by rfl) (hs : starEach (e :: []) X.env = (false, eval e X.env) :: starEach [] X.env := by rfl) :
    ES X ea W m (.Expr (.Call (.Attribute (.Name x px) "append" apos) [e] [] cpos) pos) (sApp i f) := let o := okV_of h; es_app o.at_ o.vis he o.d1 o.d2 hfew hline hs
theorem s_ext (i : Nat) {px : Pos} (he : EG X ea W e f) (h : okV X i x = true := by kernel_rfl) (hfew : ((backTo cpos (starEach (e :: []) X.env)).all (fun x => !x.1) && (backToKw cpos (keywordEach [] X.env)).all (fun x => x.1.isSome)
      && decide ((e :: ([] : List Expr)).length + ([] : List Keyword).length + (if ([] : List Keyword).isEmpty then 0 else 1) < 30)) = true := by rfl) (hline : (apos.endLine == cpos.line) = true := by rfl) (hs : starEach (e :: []) X.env = (false, eval e X.env) :: starEach [] X.env := by rfl) :
    ES X ea W m (.Expr (.Call (.Attribute (.Name x px) "extend" apos) [e] [] cpos) pos) (sExt i f) := let o := okV_of h; es_ext o.at_ o.vis he o.d1 o.d2 hfew hline hs
def hfB (X : Cx) (x : Str) : Bool := X.fn x || (match X.env.scope.names.lookup x with | some .local => true | _ => false)
theorem hfB_of (h : hfB X x = true) : X.fn x = true ∨ X.env.scope.names.lookup x = some .local := by
  unfold hfB at h
  rw [Bool.or_eq_true] at h
  rcases h with h | h
  · exact .inl h
  · right
    split at h
    · assumption
    · cases h
theorem g_name (nd : X.N.Nodup) (i : Nat) (h : okS X i x = true := by kernel_rfl) (hf : hfB X x = true := by kernel_rfl) : GJ X (.Name x pos) [i] (SR.gSet i) := gj_name nd (okS_of h).at_ (okS_of h).loc (hfB_of hf)
theorem g_tup2 (hc : X.calm = true) (nd : X.N.Nodup) (i j : Nat) {px py : Pos} {kk : Nat} (h1 : okS X i x = true := by kernel_rfl) (h2 : okS X j y = true := by kernel_rfl) (hf : hfB X x = true := by kernel_rfl)
    (hf' : hfB X y = true := by kernel_rfl) : GJ X (.Tuple [.Name x px, .Name y py] kk pos) [i, j] (SR.gTup [i, j]) := gj_tup2 hc nd (okS_of h1).at_ (okS_of h1).loc (okS_of h2).at_ (okS_of h2).loc (hfB_of hf) (hfB_of hf')
/-- comprehensions -/
theorem e_comp {elt tg iter : Expr} {ifs : List Expr} {scope : Scope} {sr : AX} {gg : GX} {t : TX} (own : List (Str × Nat)) (is : List Nat) (hc : X.calm = true) (nd : X.N.Nodup) (hi : SI X ea W tg iter sr)
    (hg : ∀ (s : Shared) (H : Hp) (C : Addr) (cl : List (Str × Addr)) (fp : List Addr), GJ (X.blk s H scope (compEnvC scope cl C X.env) fp) tg is gg) (ht : ∀ (s : Shared) (H : Hp) (C : Addr) (cl : List (Str × Addr)) (fp : List Addr), ETs (X.blk s H scope (compEnvC scope cl C X.env) fp) ea W0 ifs t)
    (he : ∀ (s : Shared) (H : Hp) (C : Addr) (cl : List (Str × Addr)) (fp : List Addr), EG (X.blk s H scope (compEnvC scope cl C X.env) fp) ea W0 elt f) (ok : blkB X.N X.env.scope scope own = true := by kernel_rfl) (ho : own.map (·.2) = is := by rfl) (hs : ∀ x, foldedSetIterable iter X.env x = pure x := by intro _; rfl) :
    EF X ea W (.ListComp elt [⟨tg, iter, ifs, 0⟩] scope pos) (comp sr is gg t f) := ef_comp is hc nd hi (blkB_of ok) ho hg ht he hs
def locB1 (X : Cx) (x : Str) : Bool := match X.env.scope.names.lookup x with | some .local => true | _ => false
theorem locB1_of (h : locB1 X x = true) : X.env.scope.names.lookup x = some .local := by
  unfold locB1 at h
  split at h
  · assumption
  · cases h
theorem s_setLc {elt tg iter : Expr} {ifs : List Expr} {scope : Scope} {sr : AX} {gg : GX} {t : TX} {py : Pos} (i : Nat) (own : List (Str × Nat)) (is : List Nat) (hc : X.calm = true) (nd : X.N.Nodup) (hi : SI X ea W tg iter sr)
    (hg : ∀ (s : Shared) (H : Hp) (C : Addr) (cl : List (Str × Addr)) (fp : List Addr), GJ (X.blk s H scope (compEnvC scope cl C X.env) fp) tg is gg) (ht : ∀ (s : Shared) (H : Hp) (C : Addr) (cl : List (Str × Addr)) (fp : List Addr), ETs (X.blk s H scope (compEnvC scope cl C X.env) fp) ea W0 ifs t)
    (he : ∀ (s : Shared) (H : Hp) (C : Addr) (cl : List (Str × Addr)) (fp : List Addr), EG (X.blk s H scope (compEnvC scope cl C X.env) fp) ea W0 elt f) (ok : blkB X.N X.env.scope scope own = true := by kernel_rfl) (ho : own.map (·.2) = is := by rfl) (h : okS X i x = true := by kernel_rfl) (hl : locB1 X x = true := by kernel_rfl)
    (hsw : swapsWith (.ListComp elt [⟨tg, iter, ifs, 0⟩] scope pos) (some (.Name x py)) pos'.line X.env = pure true := by kernel_rfl) (hs : ∀ x, foldedSetIterable iter X.env x = pure x := by intro _; rfl) :
    ES X ea W m (.Assign [.Name x py] (.ListComp elt [⟨tg, iter, ifs, 0⟩] scope pos) pos') (sSet i (comp sr is gg t f)) := es_setLc is hc nd (okS_of h).at_ (locB1_of hl) hsw hi (blkB_of ok) ho hg ht he hs
theorem s_ownLc {elt tg iter : Expr} {ifs : List Expr} {scope : Scope} {sr : AX} {gg : GX} {t : TX} {py : Pos} (i : Nat) (own : List (Str × Nat)) (is : List Nat) (hc : X.calm = true) (nd : X.N.Nodup) (hi : SI X ea W tg iter sr)
    (hg : ∀ (s : Shared) (H : Hp) (C : Addr) (cl : List (Str × Addr)) (fp : List Addr), GJ (X.blk s H scope (compEnvC scope cl C X.env) fp) tg is gg) (ht : ∀ (s : Shared) (H : Hp) (C : Addr) (cl : List (Str × Addr)) (fp : List Addr), ETs (X.blk s H scope (compEnvC scope cl C X.env) fp) ea W0 ifs t)
    (he : ∀ (s : Shared) (H : Hp) (C : Addr) (cl : List (Str × Addr)) (fp : List Addr), EG (X.blk s H scope (compEnvC scope cl C X.env) fp) ea W0 elt f) (ok : blkB X.N X.env.scope scope own = true := by kernel_rfl) (ho : own.map (·.2) = is := by rfl) (h : okS X i x = true := by kernel_rfl) (hl : locB1 X x = true := by kernel_rfl)
    (hsw : swapsWith (.ListComp elt [⟨tg, iter, ifs, 0⟩] scope pos) (some (.Name x py)) pos'.line X.env = pure true := by kernel_rfl) (hs : ∀ x, foldedSetIterable iter X.env x = pure x := by intro _; rfl) :
    ES X ea W m (.Assign [.Name x py] (.ListComp elt [⟨tg, iter, ifs, 0⟩] scope pos) pos') (sOwn i (comp sr is gg t f)) := es_ownLc is hc nd (okS_of h).at_ (locB1_of hl) hsw hi (blkB_of ok) ho hg ht he hs
/-- calls -/
theorem c_call {k : Nat} {ps : List Str} {run : List D → Res D} {r : AX} {k' : Nat} (F : Fn X.prog X.w X.K X.mg X.base ea x m k ps run) (hk : k ≤ k') (hr : Room k' X.A) (tk : Takes X W) (ha : EA' X ea W (e :: es) r) (gm : GoodM X.K m) (hnp : (e :: es).length = ps.length)
    (hl : ∀ ρ ds, r ρ = .ok ds → ds.length = ps.length) (h : glB X x = true := by kernel_rfl) (he : starEach (e :: es) X.env = (false, eval e X.env) :: starEach es X.env := by rfl) (hpl : (backTo pos (starEach es X.env)).any (·.1) = false := by rfl) :
    PE X (.Call (.Name x p) (e :: es) [] pos) (rd X.K ea W m (fun ρ => (r ρ).bind run)) := e_call F (hr.mono hk) tk (glB_of h).gl ha gm hnp hl (glB_of h).d1 he hpl
theorem g_call {k : Nat} {ps : List Str} {run : List D → Res D} {r : AX} {k' : Nat} (F : Fn X.prog X.w X.K X.mg X.base ea x (mG X.K) k ps run) (hk : k ≤ k') (hr : Room k' X.A) (tk : Takes X W) (ha : EA' X ea W (e :: es) r) (hl : ∀ ρ ds, r ρ = .ok ds → ds.length = ps.length) (hnp : (e :: es).length = ps.length := by rfl)
    (h : glB X x = true := by kernel_rfl) (he : starEach (e :: es) X.env = (false, eval e X.env) :: starEach es X.env := by rfl) (hpl : (backTo pos (starEach es X.env)).any (·.1) = false := by rfl) :
    EG X ea W (.Call (.Name x p) (e :: es) [] pos) (callE run r) := c_call F hk hr tk ha (goodG _) hnp hl h he hpl
theorem f_call {k : Nat} {ps : List Str} {run : List D → Res D} {r : AX} {k' : Nat} (F : Fn X.prog X.w X.K X.mg X.base ea x (mF X.K) k ps run) (hk : k ≤ k') (hr : Room k' X.A) (tk : Takes X W) (ha : EA' X ea W (e :: es) r) (hl : ∀ ρ ds, r ρ = .ok ds → ds.length = ps.length) (hnp : (e :: es).length = ps.length := by rfl)
    (h : glB X x = true := by kernel_rfl) (he : starEach (e :: es) X.env = (false, eval e X.env) :: starEach es X.env := by rfl) (hpl : (backTo pos (starEach es X.env)).any (·.1) = false := by rfl) :
    EF X ea W (.Call (.Name x p) (e :: es) [] pos) (callE run r) := c_call F hk hr tk ha (goodF _) hnp hl h he hpl
/-- sources -/
theorem i_range1 {tg : Expr} (hm : X.mg "range" = none) (ha : EB X ea W a f) (h : glB X "range" = true := by kernel_rfl) (hs : starEach [a] X.env = [(false, eval a X.env)] := by rfl) : SI X ea W tg (.Call (.Name "range" p) [a] [] pos) (srcR1 f) := si_range1 (glB_of h).gl hm ha hs
theorem i_range2 {tg : Expr} (hm : X.mg "range" = none) (ha : EB X ea W a f) (hb : EB X ea W b g) (h : glB X "range" = true := by kernel_rfl) (hs : starEach [a, b] X.env = [(false, eval a X.env), (false, eval b X.env)] := by rfl) (hs2 : starEach [b] X.env = [(false, eval b X.env)] := by rfl) : SI X ea W tg (.Call (.Name "range" p) [a, b] [] pos) (srcR2 f g) := si_range2 (glB_of h).gl hm ha hb hs hs2
theorem s_raise {c : Exc} (hc : X.calm = true) (tk : Takes X W) (C : ExcC X.K X.mg (ea c) x) {z : Str} {j : Nat} {pz : Pos} (h : glB X x = true := by kernel_rfl)
    (hs : starEach [.Constant (.str z) j pz] X.env = (false, eval (.Constant (.str z) j pz) X.env) :: starEach [] X.env := by rfl) :
    ES X ea W m (.Raise (some (.Call (.Name x p) [.Constant (.str z) j pz] [] pos)) none cpos) (sRs c) := es_raise hc tk C (glB_of h).gl hs (glB_of h).d1
/-- a dict of the top -/
def KTop (K : PySem.W.Frag) (w : World) (mg : Str → Option Value) (x : Str) (ps : List (SR.Txt × D)) : Prop := ∃ pp, mg x = some (.ref pp) ∧ KMap K w pp ps
theorem k_get2 {b c : Expr} {ps : List (SR.Txt × D)} (T : KTop X.K X.w X.mg x ps) (imm : ∀ q ∈ ps, q.2.mut = false) (hb : EB X ea W b f) (hc : EB X ea W c g) (hz : ∀ ρ d, g ρ = .ok d → d.mut = false) (h : glB X x = true := by kernel_rfl)
    (m : M2 X (.Name x p) "get" apos b c cpos := by exact ⟨rfl, rfl, rfl, rfl⟩) : EF X ea W (.Call (.Attribute (.Name x p) "get" apos) [b, c] [] cpos) (SR.bin (dKGet ps) f g) := by
  obtain ⟨pp, hm, km⟩ := T
  exact ef_kget2 (pe_glob (v := V.ref pp) (glB_of h).gl hm rfl (glB_of h).d1) km imm hb hc m hz
/-- try -/
theorem h_cons {cs : List Exc} (h : Exc) {s : SX} {b₀ : Stmt} {suite : List Stmt} {np pos' : Pos} {hs : List ExceptHandler} {fs : List (Exc × SX)} (C : ExcC X.K X.mg (ea h) x) (hm : ∀ c' ∈ cs, PySem.W.exmOne X.K (.ref (ea c')) (.ref (ea h)) = some (catches h c'))
    (hsu : ∀ (a : Addr) (pn : List (Addr × Obj)), ESs (X.suite a pn) ea W0 m (b₀ :: suite) s) (r : Hd X ea m cs hs fs) (hg : glB X x = true := by kernel_rfl) : Hd X ea m cs (.ExceptHandler (some (.Name x np)) none (b₀ :: suite) pos' :: hs) ((h, s) :: fs) :=
  hd_cons ⟨(glB_of hg).gl, (glB_of hg).d1, .inl C.nm⟩ hm hsu r
end
/-- a def of the text -/
structure DefK (K : PySem.W.Frag) (mg : Str → Option Value) (x qual : Str) (st : Stmt) (ps : List Str) : Prop where
  ex : ∃ f fd, Fun K x qual st f fd ∧ mg x = some (.ref f) ∧ ∀ us : List Value, us.length = ps.length → bindArgs fd ⟨us, []⟩ = pure (ps.zip us)
def scB (N ps : List Str) (sc : Scope) : Bool := (decide (sc.kind = .function) && (!sc.isCoroutine && !sc.isGenerator)) && ((decide N.Nodup && decide (N.take ps.length = ps)) && (ps.all (fun x => locB sc x) && sc.names.all fun y => !decide (y.2 = .free)))
theorem scB_of {N ps : List Str} {sc : Scope} (h : scB N ps sc = true) : FnScope N ps sc := by
  unfold scB at h
  simp only [Bool.and_eq_true, decide_eq_true_eq, Bool.not_eq_true', List.all_eq_true] at h
  obtain ⟨⟨h1, h2, h3⟩, ⟨h4, h5⟩, h6, h7⟩ := h
  exact ⟨h1, h2, h3, h4, h5, fun x hx => locB_of (h6 x hx), fun y hy e => by have := h7 y hy; rw [e] at this; simp at this⟩
section
variable {P : Program} {w : World} {K : PySem.W.Frag} {mg : Str → Option Value} {base : Heap}
/-- THE RULE for a def -/
theorem DefK.fn {x : Str} {st : Stmt} {ps : List Str} (F : DefK K mg x x st ps) (N : List Str) (k : Nat) {ea : EA} {m : Mode} {b : SX} (gm : GoodM K m)
    (body : N.Nodup → ∀ (f : Addr) (cdv : Value) (A : Around) (outer : List PySem.Env) (s : Shared) (H : Hp) (E : XK), Room k (A.deeper (envOfC x (defScope st) s.heap.objs.size f cdv)) →
      Takes (cxOf (L2.CX P w) P w K mg base N x (defScope st) f cdv A outer s H E) (fun cls d _ H => E cls d H) →
      PassesOwn (model P w) (A.deeper (envOfC x (defScope st) s.heap.objs.size f cdv)) (envOfC x (defScope st) s.heap.objs.size f cdv) (cxOf (L2.CX P w) P w K mg base N x (defScope st) f cdv A outer s H E).xe →
      ESs (cxOf (L2.CX P w) P w K mg base N x (defScope st) f cdv A outer s H E) ea (fun cls d _ H => E cls d H) m (defBody st) b) (S : scB N ps (defScope st) = true := by kernel_rfl) (hp : ps.length ≤ N.length := by decide) :
    Fn P w K mg base ea x m (k + 1) ps (runB N.length b) := by
  obtain ⟨f, fd, h1, h2, h3⟩ := F.ex
  exact fn_mk h1 (scB_of S) gm h2 h3 (body (scB_of S).nd f) hp
theorem DefK.bad {x : Str} {st : Stmt} {ps : List Str} (F : DefK K mg x x st ps) (N : List Str) (k : Nat) {ea : EA} {m : Mode} (S : scB N ps (defScope st) = true := by kernel_rfl) : Fn P w K mg base ea x m (k + 1) ps (fun _ => .bad) := by
  obtain ⟨f, fd, h1, h2, h3⟩ := F.ex
  exact ⟨f, fd, h1.okX (scB_of S) (fun vs H Q E h => h.1) (fun cdv A outer s H vs Q E hr h => by obtain ⟨_, G, ds, _, _, q⟩ := h; exact q.elim), h2, h1.kp, h3, by obtain ⟨oc, od, _, _, _, _, _, _, osl, _, lk, _⟩ := h1.ex; exact ⟨oc, od, osl, lk⟩⟩
end
end SR

set_option linter.all false
set_option autoImplicit false
set_option Elab.async false
set_option maxRecDepth 100000
set_option maxHeartbeats 1600000
/-! SRl: sorted(set(x)), for a list of truths, of numbers or of texts. -/
namespace SR
open PySem PySem.Spec PyProof.Rows L2 TL RZ
/-- a kind of things that a set may hold -/
structure SetK (P : Program) (w : World) (κ : Type) [DecidableEq κ] where
  kd : PySem.KeyKind P w κ
  key : Value → κ
  key_of : ∀ k v, kd.is k v = true → key v = k
  sc : ∀ k v, kd.is k v = true → v.scannable = true
section
variable {P : Program} {w : World} {κ : Type} [DecidableEq κ] (Z : SetK P w κ) {A : Around} {E : Value → Shared → Prop} {s : Shared} {h h' : Heap} {a : Addr}
def SetK.good (e : Int × Value) : Prop := ∃ k, Z.kd.is k e.2 = true ∧ e.1 = Z.kd.hash k
def SetK.keys (es : Array (Int × Value)) : List κ := es.toList.map fun e => Z.key e.2
/-- the set at a: its members are those of S -/
def SetK.at_ (h : Heap) (a : Addr) (S : κ → Bool) : Prop :=
  ∃ o es ep t, h.get? a = some o ∧ o.ExactSet ∧ o.data = .set es ep t ∧ (∀ e ∈ es.toList, Z.good e) ∧ (Z.keys es).Nodup ∧ (∀ k, S k = true ↔ k ∈ Z.keys es) ∧
    t.fits es.size = true ∧ Ris t.place.toList ∧ (w.params.followText "set-order" = true ∨ t.led = true)
/-- .. and has at most n -/
def SetK.upTo (h : Heap) (a : Addr) (S : κ → Bool) (n : Nat) : Prop := Z.at_ h a S ∧ ∀ o es ep t, h.get? a = some o → o.data = .set es ep t → es.size ≤ n
variable {Z} {S : κ → Bool} {n : Nat}
theorem SetK.at_.keep (R : Z.at_ h a S) (k : ∀ o, h.get? a = some o → h'.get? a = some o) : Z.at_ h' a S := by
  obtain ⟨o, es, ep, t, ho, r⟩ := R
  exact ⟨o, es, ep, t, k o ho, r⟩
theorem SetK.upTo.keep (R : Z.upTo h a S n) (k : ∀ o, h.get? a = some o → h'.get? a = some o) : Z.upTo h' a S n := by
  obtain ⟨o, es, ep, t, ho, hx, hd, r⟩ := R.1
  refine ⟨R.1.keep k, fun o' es' ep' t' ho' hd' => ?_⟩
  rw [k o ho] at ho'
  cases ho'
  exact R.2 o es' ep' t' ho hd'
theorem SetK.upTo.congr {S' : κ → Bool} (R : Z.upTo h a S n) (e : ∀ k, S' k = S k) : Z.upTo h a S' n := by
  rw [show S' = S from funext e]; exact R
theorem good_el {l : List (Int × Value)} (g : ∀ e ∈ l, Z.good e) : ElemsOf Z.kd l := fun e he => by
  obtain ⟨k, h1, h2⟩ := g e he
  exact ⟨⟨k, h1, h2⟩, Z.sc k _ h1⟩
theorem good_key {e : Int × Value} (g : Z.good e) (k : κ) : Z.kd.is k e.2 = true ↔ Z.key e.2 = k := by
  obtain ⟨j, h1, _⟩ := g
  have := Z.key_of _ _ h1
  exact ⟨fun q => Z.key_of _ _ q, fun q => by rw [← q, this]; exact h1⟩
theorem key_mem {es : Array (Int × Value)} (g : ∀ e ∈ es.toList, Z.good e) (k : κ) : k ∈ Z.keys es ↔ ∃ e ∈ es.toList, Z.kd.is k e.2 = true := by
  unfold SetK.keys
  rw [List.mem_map]
  exact ⟨fun ⟨e, he, q⟩ => ⟨e, he, (good_key (g e he) k).2 q⟩, fun ⟨e, he, q⟩ => ⟨e, he, (good_key (g e he) k).1 q⟩⟩
theorem put_at {o : Obj} {es es' : Array (Int × Value)} {ep : Nat} {t t' : SetTable} (ho : h.get? a = some o) (hd : o.data = .set es ep t) :
    (h.update a (Obj.putSet es' t')).get? a = some { o with data := .set es' (ep + 1) t' } := store_at ho hd
/-- the table is stored, grown where it is too full -/
theorem sk_tail {g : Bool → Sem Unit} (hg : ∀ (b : Bool) (s₁ : Shared) (Q' : Unit → Shared → Prop), Q' () s₁ → wpAny (model P w) A (g b) Q' E s₁)
    {o : Obj} {es : Array (Int × Value)} {ep : Nat} {t : SetTable} (ho : s.heap.get? a = some o) (hex : o.ExactSet) (hd : o.data = .set es ep t)
    {es1 : Array (Int × Value)} {t2 : SetTable} {S' : κ → Bool} (g1 : ∀ e ∈ es1.toList, Z.good e) (nd1 : (Z.keys es1).Nodup) (m1 : ∀ k, S' k = true ↔ k ∈ Z.keys es1)
    (hb1 : es1.size < scanBound) (hf2 : t2.fits es1.size = true) (hr : Ris t2.place.toList) (hl : w.params.followText "set-order" = true ∨ t2.led = true) {wasDummy : Bool} {R : Option Bool → Shared → Prop}
    (hR : ∀ h', Heap.SameBut a s.heap h' → Z.upTo h' a S' es1.size → R (some true) { s with heap := h' }) :
    wpAny (model P w) A (do
        storeSet a es1 t2
        if (!wasDummy && t2.tooFull) = true then do
            g (relayAll t2 es1 (SetTable.grown es1.size)).2.2
            storeSet a (relayAll t2 es1 (SetTable.grown es1.size)).1 (relayAll t2 es1 (SetTable.grown es1.size)).2.1
            pure (some true)
          else pure (some true)) R E s := by
  have one : ∀ {h2 : Heap} {o2 : Obj} {es2 : Array (Int × Value)} {t3 : SetTable} {ep2 : Nat}, h2.get? a = some o2 → o2.data = .set es2 ep2 t3 → es2.size = es1.size → Z.at_ h2 a S' → Z.upTo h2 a S' es1.size := fun e1 e2 e3 r => ⟨r, fun o' es' ep' t' q1 q2 => by
    rw [e1] at q1; cases q1
    rw [e2] at q2; cases q2
    exact Nat.le_of_eq e3⟩
  refine wpAny_bind (wpAny_storeSet_of ho hd ?_ (fits_of_scanBound hb1))
  have ho1 := put_at (es' := es1) (t' := t2) ho hd
  have sb1 := Heap.SameBut.update s.heap a (Obj.putSet es1 t2)
  split
  · have pm := relayAll_perm t2 es1 (SetTable.grown es1.size)
    have hf3 := relayAll_fits t2 es1 (SetTable.grown es1.size)
    have hr3 := relayAll_ris t2 es1 (SetTable.grown es1.size)
    have hl3 := relayAll_led t2 es1 (SetTable.grown es1.size)
    generalize relayAll t2 es1 (SetTable.grown es1.size) = Y at pm hf3 hr3 hl3 ⊢
    obtain ⟨es2, t3, gave⟩ := Y
    dsimp only at pm hf3 hr3 hl3 ⊢
    have hsz : es2.size = es1.size := by rw [← Array.length_toList, pm.length_eq, Array.length_toList]
    have hb2 : es2.size < scanBound := by rw [hsz]; exact hb1
    refine wpAny_bind (hg _ _ _ ?_)
    refine wpAny_bind (wpAny_storeSet_of ho1 rfl ?_ (fits_of_scanBound hb2))
    have ho2 := put_at (es' := es2) (t' := t3) ho1 rfl
    refine wpAny_pure (hR _ (sb1.trans (Heap.SameBut.update _ a _)) (one ho2 rfl hsz ?_))
    exact ⟨_, es2, _, t3, ho2, hex, rfl, fun e he => g1 e (pm.mem_iff.mp he), (pm.map fun (e : Int × Value) => Z.key e.2).nodup_iff.mpr nd1, fun k => (m1 k).trans (pm.map fun (e : Int × Value) => Z.key e.2).mem_iff.symm, hf3, hr3,
      hl.imp id fun z => by rw [hl3]; exact z⟩
  · exact wpAny_pure (hR _ sb1 (one ho1 rfl rfl ⟨_, es1, _, t2, ho1, hex, rfl, g1, nd1, m1, hf2, hr, hl⟩))
/-- a thing is added -/
theorem sk_add {k : κ} {v : Value} (hv : Z.kd.is k v = true) {Q : Bool → Shared → Prop} (R : Z.upTo s.heap a S n) (room : n + 1 < scanBound)
    (hQ : ∀ b h', Heap.SameBut a s.heap h' → Z.upTo h' a (fun j => S j || decide (j = k)) (n + 1) → Q b { s with heap := h' }) :
    wpAny (model P w) A (setAddHashed a v (Z.kd.hash k)) Q E s := by
  obtain ⟨⟨o, es, ep, t, ho, hex, hd, g, nd, hm, hf, hr, hl⟩, hn0⟩ := R
  have hn := hn0 o es ep t ho hd
  have hb : es.size < scanBound := by omega
  have hsc : v.scannable = true := Z.sc k v hv
  have hel : ElemsOf Z.kd es.toList := good_el g
  unfold setAddHashed setAddHashedIn
  refine wpAny_holding (wpAny_bind (wpAny_setState_of ho hd hf ?_))
  dsimp only
  rw [byScan_of hsc hb hel]
  simp only [↓reduceIte]
  unfold setAddByScan
  refine wpAny_bind ?_
  refine wpAny_bind (wpAny_rule ?_)
  refine wpAny_bind (wpAny_setScan_of hv ho hd hf hel ?_)
  cases hfi : List.findIdx? (fun e => Z.kd.is k e.2) es.toList with
  | some j =>
    dsimp only
    obtain ⟨hj, pj, _⟩ := List.findIdx?_eq_some_iff_getElem.mp hfi
    have hSk : S k = true := (hm k).2 ((key_mem g k).2 ⟨es.toList[j], List.getElem_mem hj, pj⟩)
    refine wpAny_pure (wpAny_pure ?_)
    refine hQ _ s.heap (Heap.SameBut.refl a s.heap) ⟨⟨o, es, ep, t, ho, hex, hd, g, nd, fun i => ?_, hf, hr, hl⟩, fun o' es' ep' t' q1 q2 => ?_⟩
    · rw [Bool.or_eq_true, decide_eq_true_eq, ← hm i]
      exact ⟨fun z => z.elim id (fun e => e ▸ hSk), .inl⟩
    · exact Nat.le_succ_of_le (hn0 o' es' ep' t' q1 q2)
  | none =>
    dsimp only
    have hnk : k ∉ Z.keys es := fun z => by
      obtain ⟨e, he, q⟩ := (key_mem g k).1 z
      have c := List.findIdx?_eq_none_iff.mp hfi e he
      rw [q] at c
      cases c
    have hgw : ∀ (b : Bool) {s₁ : Shared} {Q' : Unit → Shared → Prop}, Q' () s₁ → wpAny (model P w) A (match b with | true => rule "set.scan.the-table-gave-way" | false => pure ()) Q' E s₁ :=
      fun b s₁ Q' q => by cases b <;> first | exact wpAny_pure q | exact wpAny_rule q
    have pm := layNew_perm t es (Z.kd.hash k) v
    have hf1 := layNew_fits t es (Z.kd.hash k) v
    have hr1 := layNew_ris t es (Z.kd.hash k) v hr
    have hl1 := layNew_led t es (Z.kd.hash k) v
    generalize layNew t es (Z.kd.hash k) v = Y at pm hf1 hr1 hl1 ⊢
    obtain ⟨es1, t1, wasDummy, gave⟩ := Y
    dsimp only at pm hf1 hr1 hl1 ⊢
    rw [Array.toList_push] at pm
    have pc : es1.toList.Perm ((Z.kd.hash k, v) :: es.toList) := pm.trans (List.perm_append_singleton _ _)
    have pk : (Z.keys es1).Perm (k :: Z.keys es) := by
      have := pc.map fun e => Z.key e.2
      rw [List.map_cons, show Z.key (Z.kd.hash k, v).2 = k from Z.key_of _ _ hv] at this
      exact this
    have g1 : ∀ e ∈ es1.toList, Z.good e := fun e he => by
      rcases List.mem_cons.mp (pc.mem_iff.mp he) with z | z
      · rw [z]; exact ⟨k, hv, rfl⟩
      · exact g e z
    have nd1 : (Z.keys es1).Nodup := pk.nodup_iff.mpr (List.nodup_cons.mpr ⟨hnk, nd⟩)
    have m1 : ∀ i, (S i || decide (i = k)) = true ↔ i ∈ Z.keys es1 := fun i => by
      rw [Bool.or_eq_true, decide_eq_true_eq, hm i, pk.mem_iff, List.mem_cons]
      exact Or.comm
    have hsz : es1.size = es.size + 1 := by rw [← Array.length_toList, pc.length_eq, List.length_cons, Array.length_toList]
    have hb1 : es1.size < scanBound := by omega
    have hled : w.params.followText "set-order" = true ∨ t1.led = true := hl.imp id fun z => by rw [hl1]; exact z
    have fin : ∀ h', Heap.SameBut a s.heap h' → Z.upTo h' a (fun j => S j || decide (j = k)) es1.size → Q true { s with heap := h' } := fun h' sb r =>
      hQ _ h' sb ⟨r.1, fun o' es' ep' t' q1 q2 => by have := r.2 o' es' ep' t' q1 q2; omega⟩
    refine wpAny_bind (hgw _ ?_)
    split
    · refine wpAny_bind ?_
      rw [hashByValue_scannable 8 hsc]
      refine wpAny_pure ?_
      refine sk_tail ?_ ho hex hd g1 nd1 m1 hb1 ?_ ?_ ?_ ?_
      · intro b s₁ Q' q; cases b <;> first | exact wpAny_pure q | exact wpAny_rule q
      · first | (split <;> first | exact hf1 | exact SetTable.fits_plain_off hf1) | exact hf1
      · first | (split <;> exact hr1) | exact hr1
      · first | (split <;> exact hled) | exact hled
      · intro h' sb r; dsimp only; exact wpAny_pure (fin h' sb r)
    · refine wpAny_bind (wpAny_pure ?_)
      simp only [↓reduceIte]
      refine sk_tail ?_ ho hex hd g1 nd1 m1 hb1 hf1 hr1 hled ?_
      · intro b s₁ Q' q; cases b <;> first | exact wpAny_pure q | exact wpAny_rule q
      · intro h' sb r; dsimp only; exact wpAny_pure (fin h' sb r)
theorem sk_new {ns : List κ} (ho : h.get? a = some { cls := .type "set", dict := none, data := .set #[] 0 (.fresh 0 0 (!w.params.followText "set-order")) }) : Z.upTo h a (fun j => decide (j ∈ ns.take 0)) 0 :=
  ⟨⟨_, #[], 0, _, ho, ⟨rfl, rfl, rfl⟩, rfl, (fun e he => by simp at he), (by simp [SetK.keys]), (fun k => by simp [SetK.keys]), (by rfl), List.Pairwise.nil, by
    show _ ∨ (!w.params.followText "set-order") = true
    cases w.params.followText "set-order"
    · exact .inr rfl
    · exact .inl rfl⟩, fun o es ep t q1 q2 => by rw [ho] at q1; cases q1; cases q2; exact Nat.le_refl _⟩
/-- the loop that fills a set -/
theorem sk_fill {I : Addr} {fp wr : List Addr} {G : Array GenState → Array GenState → Prop} {n : Nat} {Pv : Nat → Value → Prop} {St : Nat → Shared → Prop} {R : Result → Shared → Prop}
    (W : WalksS P w A.in1 I fp wr G n Pv St) (S : Addr) (hSf : S ∉ fp) (ns : List κ) (hn : n = ns.length) (hb : ns.length + 1 < scanBound) (hval : ∀ i v, Pv i v → ∃ k, ns[i]? = some k ∧ Z.kd.is k v = true) :
    ∀ (k i : Nat) (s : Shared), n - i = k → i ≤ n → St i s → Z.upTo s.heap S (fun j => decide (j ∈ ns.take i)) i →
      (∀ s', Moved (S :: wr) G s s' → Z.upTo s'.heap S (fun j => decide (j ∈ ns)) n → R (.ok (.ret .none)) s') →
      codeAny (model P w) A (.builtin "set.update.loop" ⟨[.ref S, .ref I], []⟩) R s := by
  have hSw : S ∉ wr := fun h => hSf (W.sub _ h)
  have hsub : ∀ b ∈ wr, b ∈ S :: wr := fun b hb => List.mem_cons_of_mem _ hb
  intro k
  induction k with
  | zero =>
    intro i s hk' hi hst hS hR
    have hin : i = n := by omega
    subst hin
    refine codeAny_builtin F.entry_set_update_loop ?_
    rw [Around.under_plainId F.plain_set_update_loop _]
    show wpAny _ A.in1 (pyNext (.ref I) >>= _) _ _ s
    refine wpAny_bind (W.done s _ _ hst fun s' hm => ?_)
    show wpAny _ A.in1 (ret Value.none) _ _ s'
    have e : ns.take i = ns := List.take_of_length_le (by omega)
    rw [e] at hS
    exact wpAny_pure (hR s' (hm.mono hsub) (hS.keep fun o e => hm.heap S o hSw e))
  | succ k ih =>
    intro i s hk' hi hst hS hR
    have hlt : i < n := by omega
    refine codeAny_builtin F.entry_set_update_loop ?_
    rw [Around.under_plainId F.plain_set_update_loop _]
    show wpAny _ A.in1 (pyNext (.ref I) >>= _) _ _ s
    refine wpAny_bind (W.item i s _ _ hlt hst fun v s' hP hst' hm => ?_)
    obtain ⟨z, hz, hv⟩ := hval i v hP
    have hS' : Z.upTo s'.heap S (fun j => decide (j ∈ ns.take i)) i := hS.keep fun o e => hm.heap S o hSw e
    show wpAny _ A.in1 (holding [v] (setAdd S v) >>= _) _ _ s'
    refine wpAny_bind (wpAny_holding ?_)
    unfold setAdd
    refine wpAny_holding ?_
    refine wpAny_bind (Z.kd.pyHash (k := z) hv ?_)
    refine sk_add (s := { s' with toks := s'.toks + 1 }) hv hS' (by omega) fun b h' hsb hS2 => ?_
    have hS3 : Z.upTo h' S (fun j => decide (j ∈ ns.take (i + 1))) (i + 1) := hS2.congr fun j => by
      rw [List.take_add_one, hz]
      simp [List.mem_append]
    refine wpAny_pure ⟨plainId_quiet F.plain_set_update_loop _, ih (i + 1) _ (by omega) hlt (W.frame _ s' _ _ hst' (Nat.le_succ _) fun b hb o e => ?_) hS3 fun s'' hm'' hS'' => ?_⟩
    · rw [hsb.2 b (fun h : b = S => hSf (by rw [← h]; exact hb))]; exact e
    · refine hR s'' (Moved.trans W.gtrans ((hm.mono hsub).then_heap (Nat.le_succ _) fun b o hb e => ?_) hm'') hS''
      rw [hsb.2 b (fun h : b = S => hb (by rw [h]; exact List.mem_cons_self))]; exact e
end
/-! ### set(x) of a list -/
section
variable {P : Program} {w : World} {κ : Type} [DecidableEq κ] {Z : SetK P w κ} {A : Around} {E : Value → Shared → Prop} {s : Shared}
set_option maxHeartbeats 3200000 in
theorem call_setL {l : Addr} {items : Array Value} (ns : List κ) {Q : Value → Shared → Prop} (hh : A.handled = none) (hl : s.heap.IsList l items) (hsz : items.size = ns.length) (hit : ∀ (i : Nat) (v : Value), items[i]? = some v → ∃ k, ns[i]? = some k ∧ Z.kd.is k v = true) (hb : ns.length + 1 < scanBound)
    (h : ∀ (h' : Heap) (tk : Nat), Z.upTo h' s.heap.objs.size (fun j => decide (j ∈ ns)) ns.length → (∀ b o, s.heap.get? b = some o → h'.get? b = some o) → Q (.ref s.heap.objs.size) { s with heap := h', toks := tk }) :
    wpAny (model P w) A (call (.type "set") [.ref l]) Q E s := by
  obtain ⟨c, tl, hmro⟩ := F.called_set.mro
  have hmade := F.called_set.made
  have hsub := F.called_set.sub
  refine wpAny_call (codeAny_of_tree ?_)
  show wpAny _ _ (callAny (.type "set") _) _ _ _
  refine wpAny_pure ⟨Code.quiet_builtin _ (by decide +kernel), codeAny_builtin F.entry_type_call ?_⟩
  rw [Around.under_plain (weight_type_call_type "set" [.ref l] []) rfl]
  have h1 := F.called_set.notType
  have h2 := F.called_set.canCreate
  have hct := F.typeCall_set_1 (.ref l)
  repeat (any_goals (first | assumption | wp_step))
  refine codeAny_mono (code_set_led1 (.ref l) (E := E) (Q₁ := fun obj s₁ => obj = .ref s.heap.objs.size ∧ s₁ = { s with heap := s.heap.push { cls := .type "set", dict := none, data := .set #[] 0 (.fresh 0 0 (!w.params.followText "set-order")) } }) ⟨rfl, rfl⟩) fun r s₁ hr => ?_
  cases r with
  | error e => exact hr
  | ok fl =>
    cases fl with
    | ret obj =>
      obtain ⟨rfl, rfl⟩ := hr
      have hS : (s.heap.push { cls := .type "set", dict := none, data := .set #[] 0 (.fresh 0 0 (!w.params.followText "set-order")) }).get? s.heap.objs.size = some { cls := .type "set", dict := none, data := .set #[] 0 (.fresh 0 0 (!w.params.followText "set-order")) } := Heap.get?_push_size _ rfl
      have hT : Shared.TypeIs { s with heap := s.heap.push { cls := .type "set", dict := none, data := .set #[] 0 (.fresh 0 0 (!w.params.followText "set-order")) } } (.ref s.heap.objs.size) "set" := ⟨_, hS, rfl⟩
      have hli := F.called_set.init.lookup
      have hbi := F.called_set.init.bind (.ref s.heap.objs.size)
      repeat (any_goals (first | assumption | wp_step))
      refine codeAny_mono (codeAny_call_builtin (R := wants (fun r s₂ => r = .none ∧ ∃ h' tk, s₂ = { s with heap := h', toks := tk } ∧ Z.upTo h' s.heap.objs.size (fun j => decide (j ∈ ns)) ns.length ∧
          (∀ b o, s.heap.get? b = some o → h'.get? b = some o)) E) F.called_set.init.plain F.entry_set_init (check_set_init_1 hT ?_)) fun r₂ s₂ hr₂ => ?_
      · obtain ⟨ol, hol, hcl, nl, hdl⟩ := hl
        obtain ⟨ocls, odict, odata, oslots⟩ := ol
        simp only at hcl hdl
        subst hcl; subst hdl
        have hol' : (s.heap.push { cls := .type "set", dict := none, data := .set #[] 0 (.fresh 0 0 (!w.params.followText "set-order")) }).get? l = some { cls := .type "list", dict := odict, data := .seq items nl, slots := oslots } := Heap.get?_push_of_some _ hol
        have hsls := F.sub_list_set
        have hslf := F.sub_list_frozenset
        have hne : (Value.type "list" == Value.type "dict") = false := by decide
        have hl1 : (s.heap.push { cls := .type "set", dict := none, data := .set #[] 0 (.fresh 0 0 (!w.params.followText "set-order")) }).IsList l items := ⟨_, hol', rfl, nl, rfl⟩
        unfold Builtin.«set.__init__» noKeywords Builtin.Frozenset.updateFrom
        generalize hPI : pyIter = PI
        wp_walk
        subst hPI
        refine wpAny_pyIter_list hl1 ?_
        refine wpAny_bind (wpAny_runValue ?_)
        have hlS : l < s.heap.objs.size := Heap.lt_size hol
        have hh3 : A.in1.in1.in1.handled = none := by simp [hh]
        have hneI : l ≠ (s.heap.push { cls := .type "set", dict := none, data := .set #[] 0 (.fresh 0 0 (!w.params.followText "set-order")) }).objs.size := by
          rw [Heap.size_push]; exact Nat.ne_of_lt (Nat.lt_succ_of_lt hlS)
        have hSf : s.heap.objs.size ∉ [(s.heap.push { cls := .type "set", dict := none, data := .set #[] 0 (.fresh 0 0 (!w.params.followText "set-order")) }).objs.size, l] := by
          rw [Heap.size_push]; simp only [List.mem_cons, List.mem_singleton, List.not_mem_nil, or_false, not_or]
          exact ⟨Nat.ne_of_lt (Nat.lt_succ_self _), Nat.ne_of_gt hlS⟩
        refine sk_fill ((Walks.list hh3 _ l hneI items).toS) s.heap.objs.size hSf ns hsz hb hit (items.size - 0) 0 _ (by omega) (Nat.zero_le _)
          ⟨⟨_, Heap.get?_push_size _ rfl, rfl, rfl⟩, (hl1.push _)⟩ ?hS0 ?hR
        case hS0 => exact sk_new (Heap.get?_push_of_some _ hS)
        case hR =>
          intro s' hm hS'
          obtain ⟨h', g2, d', tk', os'⟩ := s'
          have eg : g2 = s.gens := hm.gens
          have ed : d' = s.drawn := hm.drawn
          have eo : os' = s.os := hm.os
          subst eg; subst ed; subst eo
          show wpAny _ _ _ _ _ _
          refine wpAny_pure ?_
          show wpAny _ _ (ret Value.none) _ _ _
          rw [hsz] at hS'
          refine wpAny_pure ⟨rfl, h', tk', rfl, hS', fun b o e => ?_⟩
          have hb0 : b < s.heap.objs.size := Heap.lt_size e
          have hb1 : b ≠ s.heap.objs.size := Nat.ne_of_lt hb0
          have hb2 : b ≠ (s.heap.push { cls := .type "set", dict := none, data := .set #[] 0 (.fresh 0 0 (!w.params.followText "set-order")) }).objs.size := by
            rw [Heap.size_push]; exact Nat.ne_of_lt (Nat.lt_succ_of_lt hb0)
          exact hm.heap b o (by simp only [List.mem_cons, List.mem_singleton, List.not_mem_nil, or_false, not_or]; exact ⟨hb1, hb2⟩) (Heap.get?_push_of_some _ (Heap.get?_push_of_some _ e))
      · cases r₂ with
        | error e => exact hr₂
        | ok fl₂ =>
          cases fl₂ with
          | ret r =>
            obtain ⟨rfl, h', tk, rfl, hS', hk'⟩ := hr₂
            repeat (any_goals (first | assumption | wp_step))
            exact h _ _ hS' hk'
          | _ => exact hr₂.elim
    | _ => exact hr.elim
end
end SR

set_option linter.all false
set_option autoImplicit false
set_option Elab.async false
set_option maxRecDepth 100000
set_option maxHeartbeats 1600000
/-! SRm: sorted(set(x)), the second part. -/
namespace SR
open PySem PySem.Spec PyProof.Rows L2 TL RZ
/-- .. that are told as data and have an order -/
structure OrdK (P : Program) (w : World) (κ : Type) [DecidableEq κ] extends SetK P w κ where
  vk : κ → V
  dk : κ → D
  rel : ∀ k u, RelV (vk k) u ↔ kd.is k u = true
  rep : ∀ K G k, Rep K G (vk k) (dk k)
  enc : κ → PyData
  al : ∀ a b, PySem.W.alike (enc a) (enc b) = true
  oth : ∀ a, enc a ≠ .none ∧ ∀ xs, enc a ≠ .tuple xs
  dep : ∀ a, (enc a).depth = 0
  rd : ∀ (h : Heap) k u, kd.is k u = true → Reads h u (enc k) []
  lt : κ → κ → Bool
  le : PySem.W.dataLe false enc = fun a b => !lt b a
  irr : ∀ a, lt a a = false
  tr : ∀ a b c, lt a b = true → lt b c = true → lt a c = true
  tri : ∀ a b, lt a b = false → lt b a = false → a = b
  eqd : ∀ a b, D.eq (dk a) (dk b) = decide (a = b)
  ltd : ∀ a b, D.lt1 (dk a) (dk b) = lt a b
section
variable {P : Program} {w : World} {κ : Type} [DecidableEq κ] {Z : OrdK P w κ} {A : Around} {E : Value → Shared → Prop} {s : Shared} {a : Addr} {S : κ → Bool}
def OrdK.rising (Z : OrdK P w κ) (l : List κ) : Prop := l.Pairwise fun a b => Z.lt a b = true
theorem rise_uniq : ∀ {l m : List κ}, Z.rising l → Z.rising m → (∀ k, k ∈ l ↔ k ∈ m) → l = m
  | [], [], _, _, _ => rfl
  | [], y :: m, _, _, h => by have := (h y).2 List.mem_cons_self; cases this
  | x :: l, [], _, _, h => by have := (h x).1 List.mem_cons_self; cases this
  | x :: l, y :: m, hl, hm, h => by
    obtain ⟨h1, h2⟩ := List.pairwise_cons.mp hl
    obtain ⟨h3, h4⟩ := List.pairwise_cons.mp hm
    have e : x = y := by
      rcases List.mem_cons.mp ((h x).1 List.mem_cons_self) with e | e
      · exact e
      · rcases List.mem_cons.mp ((h y).2 List.mem_cons_self) with e' | e'
        · exact e'.symm
        · have a1 := h1 y e'
          have a2 := h3 x e
          have := Z.tr _ _ _ a1 a2
          rw [Z.irr] at this; cases this
    subst e
    congr 1
    refine rise_uniq h2 h4 fun k => ⟨fun q => ?_, fun q => ?_⟩
    · rcases List.mem_cons.mp ((h k).1 (List.mem_cons_of_mem _ q)) with e | e
      · subst e; have := h1 k q; rw [Z.irr] at this; cases this
      · exact e
    · rcases List.mem_cons.mp ((h k).2 (List.mem_cons_of_mem _ q)) with e | e
      · subst e; have := h3 k q; rw [Z.irr] at this; cases this
      · exact e
theorem rise_sort (l : List κ) (nd : l.Nodup) : Z.rising (l.mergeSort (PySem.W.dataLe false Z.enc)) ∧ ∀ k, k ∈ l.mergeSort (PySem.W.dataLe false Z.enc) ↔ k ∈ l := by
  have pm := List.mergeSort_perm l (PySem.W.dataLe false Z.enc)
  refine ⟨?_, fun k => pm.mem_iff⟩
  have hs : (l.mergeSort (PySem.W.dataLe false Z.enc)).Pairwise (fun a b => (PySem.W.dataLe false Z.enc) a b = true) := by
    refine List.pairwise_mergeSort (fun a b c h1 h2 => ?_) (fun a b => ?_) l
    · rw [Z.le] at h1 h2 ⊢
      simp only [Bool.not_eq_true'] at h1 h2 ⊢
      cases q : Z.lt c a with
      | false => rfl
      | true =>
        by_cases e : a = b
        · subst e; rw [h2] at q; cases q
        · have : Z.lt a b = true := by
            cases q2 : Z.lt a b with
            | true => rfl
            | false => exact absurd (Z.tri _ _ q2 h1) e
          have := Z.tr _ _ _ q this
          rw [h2] at this; cases this
    · rw [Z.le]
      simp only [Bool.or_eq_true, Bool.not_eq_true']
      cases q : Z.lt b a with
      | false => exact .inl rfl
      | true =>
        right
        cases q2 : Z.lt a b with
        | false => rfl
        | true => have := Z.tr _ _ _ q q2; rw [Z.irr] at this; cases this
  have hn := pm.nodup_iff.mpr nd
  refine (hs.and hn).imp fun {x y} ⟨h1, h2⟩ => ?_
  rw [Z.le] at h1
  simp only [Bool.not_eq_true'] at h1
  cases q : Z.lt x y with
  | true => rfl
  | false => exact absurd (Z.tri _ _ q h1) h2
/-- the plain way -/
theorem insD_rise (x : κ) : ∀ (l : List κ), Z.rising l → ∃ m, insD D.lt1 (Z.dk x) (l.map Z.dk) = m.map Z.dk ∧ Z.rising m ∧ ∀ k, k ∈ m ↔ k = x ∨ k ∈ l
  | [], _ => ⟨[x], rfl, List.pairwise_singleton _ _, fun k => by simp⟩
  | y :: l, hl => by
    obtain ⟨h1, h2⟩ := List.pairwise_cons.mp hl
    rw [List.map_cons]
    unfold insD
    rw [Z.eqd, Z.ltd]
    by_cases e : x = y
    · subst e
      rw [decide_eq_true rfl, if_pos rfl]
      exact ⟨x :: l, rfl, hl, fun k => by simp⟩
    · rw [decide_eq_false e, if_neg Bool.false_ne_true]
      cases q : Z.lt x y with
      | true =>
        rw [if_pos rfl]
        refine ⟨x :: y :: l, rfl, List.pairwise_cons.mpr ⟨fun z hz => ?_, hl⟩, fun k => by simp⟩
        rcases List.mem_cons.mp hz with e | e
        · subst e; exact q
        · exact Z.tr _ _ _ q (h1 z e)
      | false =>
        rw [if_neg Bool.false_ne_true]
        obtain ⟨m, e1, r1, m1⟩ := insD_rise x l h2
        rw [e1]
        refine ⟨y :: m, rfl, List.pairwise_cons.mpr ⟨fun z hz => ?_, r1⟩, fun k => ?_⟩
        · rcases (m1 z).1 hz with e' | e'
          · subst e'
            cases q2 : Z.lt y z with
            | true => rfl
            | false => exact absurd (Z.tri _ _ q q2) e
          · exact h1 z e'
        · rw [List.mem_cons, m1 k, List.mem_cons]
          constructor
          · rintro (h | h | h)
            · exact .inr (.inl h)
            · exact .inl h
            · exact .inr (.inr h)
          · rintro (h | h | h)
            · exact .inr (.inl h)
            · exact .inl h
            · exact .inr (.inr h)
theorem foldr_rise : ∀ l : List κ, ∃ m, (l.map Z.dk).foldr (insD D.lt1) [] = m.map Z.dk ∧ Z.rising m ∧ ∀ k, k ∈ m ↔ k ∈ l
  | [] => ⟨[], rfl, List.Pairwise.nil, fun k => Iff.rfl⟩
  | x :: l => by
    obtain ⟨m, e1, r1, m1⟩ := foldr_rise l
    obtain ⟨m2, e2, r2, m2'⟩ := insD_rise x m r1
    refine ⟨m2, ?_, r2, fun k => by rw [m2' k, m1 k, List.mem_cons]⟩
    rw [List.map_cons, List.foldr_cons, e1, e2]
theorem each_of {vs : List Value} (h : ∀ v ∈ vs, ∃ k, Z.kd.is k v = true) : PySem.W.EachIs (fun v k => Z.kd.is k v = true) vs (vs.map Z.key) := by
  induction vs with
  | nil => exact .nil
  | cons v vs ih =>
    obtain ⟨k, hk⟩ := h v List.mem_cons_self
    refine .cons ?_ (ih fun u hu => h u (List.mem_cons_of_mem _ hu))
    rw [Z.key_of _ _ hk]; exact hk
theorem each_vals : ∀ {vs : List Value} {ks : List κ}, PySem.W.EachIs (fun v k => Z.kd.is k v = true) vs ks → Vals (ks.map Z.vk) vs
  | _, _, .nil => .nil
  | _, _, .cons h t => .cons ((Z.rel _ _).2 h) (each_vals t)
theorem sk_sorted {n : Nat} {Q : Value → Shared → Prop} (R : Z.toSetK.upTo s.heap a S n) (hn : n < 4096) (hh : A.handled = none) (hu : A.units + 8 < cLine)
    (hQ : ∀ s' p (out : List Value) (c : Nat) (ks : List κ), (∀ b o, s.heap.get? b = some o → s'.heap.get? b = some o) → s'.gens = s.gens → s'.os = s.os → s.heap.objs.size ≤ p →
      s'.heap.get? p = some (seqObj "list" out.toArray c) → Vals (ks.map Z.vk) out → Z.rising ks → (∀ k, k ∈ ks ↔ S k = true) → ks.length ≤ n → Q (.ref p) s') :
    wpAny (model P w) A (call (.builtin "sorted") [.ref a]) Q E s := by
  obtain ⟨⟨o, es, ep, t, ho, hex, hd, g, nd, hm, hf, hr, hl⟩, hn0⟩ := R
  have hes := hn0 o es ep t ho hd
  refine Calls.call_function_entry kind_sorted plain_sorted entry_sorted (args_sorted1 _) ?_
  unfold Builtin.«sorted»
  refine wpAny_bind (m := checkCount "sorted" 1 1 _) (wpAny_pure ?_)
  refine wpAny_bind (collect_set (A := A.in1) hh ⟨o, ho, hex.1, hd⟩ hf (by show es.size < 4096; omega) hr hl fun s1 vs k1 hz g1 o1 pm => ?_)
  have hvl : vs.length = es.size := by rw [pm.length_eq, List.length_map, Array.length_toList]
  have hgood : ∀ v ∈ vs, ∃ k, Z.kd.is k v = true := fun v hv => by
    obtain ⟨e, he, q⟩ := List.mem_map.mp (pm.mem_iff.mp hv)
    obtain ⟨k, h1, _⟩ := g e he
    exact ⟨k, by rw [← q]; exact h1⟩
  have he := each_of hgood
  have pk : (vs.map Z.key).Perm (Z.toSetK.keys es) := by
    have q := pm.map Z.key
    rw [List.map_map] at q
    exact q
  have hlen : (vs.map Z.key).length = es.size := by rw [List.length_map, hvl]
  refine wpAny_bind (wpAny_newList ?_ (by rw [hvl, sizeLine_eq]; omega))
  have hoL : (s1.heap.push (seqObj "list" vs.toArray 0)).get? s1.heap.objs.size = some (seqObj "list" vs.toArray 0) := Heap.get?_push_size _ rfl
  refine wpAny_bind (wpAny_holding (PySem.W.list_sort_data (R := fun v k => Z.kd.is k v = true) (enc := Z.enc) hoL he (he.mono fun v k q => ⟨[], Z.rd _ k v q, by simp⟩) (.of Z.al) (.others Z.oth) (by rw [hlen, sizeLine_eq]; omega)
    (fun b _ => by rw [Z.dep b]; show A.units + 1 + 1 + 0 < cLine; omega) fun out ol eo => ?_))
  obtain ⟨c, hc⟩ := PyProof.Rows.sortedHeap_at (vs := vs) (out := out.toArray) hoL
  obtain ⟨r1, m1⟩ := rise_sort (Z := Z) (vs.map Z.key) (pk.nodup_iff.mpr nd)
  refine wpAny_pure ⟨_, rfl, hQ _ s1.heap.objs.size out c _ (fun b u e => ?_) g1 o1 hz hc (each_vals eo) r1 (fun k => by rw [m1 k, pk.mem_iff, ← hm k]) ?_⟩
  · have q := k1 b u e
    have hlt := Heap.lt_size q
    show (sortedHeap (s1.heap.push (seqObj "list" vs.toArray 0)) s1.heap.objs.size vs out.toArray).get? b = some u
    rw [PyProof.Rows.sortedHeap_old (Nat.ne_of_lt hlt) (by rw [size_push']; exact Nat.lt_succ_of_lt hlt)]
    exact Heap.get?_push_of_some _ q
  · rw [List.length_mergeSort, hlen]; exact hes
end
/-! ### the three kinds -/
def ordI (P : Program) (w : World) : OrdK P w Int where
  kd := intKind P w
  key := fun v => match v with | .int k _ => k | _ => 0
  key_of := fun k v h => by obtain ⟨t, rfl⟩ := Value.isInt_shape h; rfl
  sc := fun k v h => by obtain ⟨t, rfl⟩ := Value.isInt_shape h; rfl
  vk := .int
  dk := .int
  rel := fun k u => ⟨fun ⟨t, e⟩ => by subst e; exact intKind_is P w k t, fun h => by obtain ⟨t, rfl⟩ := Value.isInt_shape h; exact ⟨t, rfl⟩⟩
  rep := fun _ _ k => .int k
  enc := .int
  al := fun _ _ => rfl
  oth := fun a => ⟨fun e => (nomatch e), fun xs e => (nomatch e)⟩
  dep := fun _ => rfl
  rd := fun h k u q => by obtain ⟨t, rfl⟩ := Value.isInt_shape q; exact .int _ _
  lt := fun a b => decide (a < b)
  le := by
    rw [PySem.W.dataLe_int (fun b : Int => b)]
    funext a b
    rw [PySem.W.not_lt_int]
  irr := fun a => by simp
  tr := fun a b c h1 h2 => by simp at h1 h2 ⊢; omega
  tri := fun a b h1 h2 => by simp at h1 h2; omega
  eqd := fun a b => by simp only [D.eq]; rw [Bool.eq_iff_iff]; simp
  ltd := fun a b => rfl
def ordS (P : Program) (w : World) : OrdK P w Str where
  kd := PySem.strKind P w
  key := fun v => match v with | .str k _ => k | _ => ⟨#[]⟩
  key_of := fun k v h => by obtain ⟨t, rfl⟩ := Value.isStrOf_shape h; rfl
  sc := fun k v h => by obtain ⟨t, rfl⟩ := Value.isStrOf_shape h; rfl
  vk := .str
  dk := fun z => .str (tl z)
  rel := fun k u => ⟨fun ⟨t, e⟩ => by subst e; exact strKind_is P w k t, fun h => by obtain ⟨t, rfl⟩ := Value.isStrOf_shape h; exact ⟨t, rfl⟩⟩
  rep := fun _ _ k => .str k
  enc := .str
  al := fun _ _ => rfl
  oth := fun a => ⟨fun e => (nomatch e), fun xs e => (nomatch e)⟩
  dep := fun _ => rfl
  rd := fun h k u q => by obtain ⟨t, rfl⟩ := Value.isStrOf_shape q; exact .str _ _
  lt := fun a b => decide (tl a < tl b)
  le := by
    rw [PySem.W.dataLe_str (fun b : Str => b)]
    funext a b
    rw [← PySem.W.not_lt_str]
  irr := fun a => by simpa using List.lt_irrefl (tl a)
  tr := fun a b c h1 h2 => by simp only [decide_eq_true_eq] at *; exact List.lt_trans h1 h2
  tri := fun a b h1 h2 => by
    simp only [decide_eq_false_iff_not] at h1 h2
    exact ext_tl (List.le_antisymm h2 h1)
  eqd := fun a b => by
    simp only [D.eq]
    rw [Bool.eq_iff_iff, beq_iff_eq, decide_eq_true_eq]
    exact ⟨fun e => ext_tl e, fun e => by rw [e]⟩
  ltd := fun a b => rfl
def ordB (P : Program) (w : World) : OrdK P w Bool where
  kd := PpSet.boolK P w
  key := fun v => match v with | .bool k => k | _ => false
  key_of := fun k v h => by rw [PpSet.isB_shape h]
  sc := fun k v h => by rw [PpSet.isB_shape h]; rfl
  vk := .bl
  dk := .bl
  rel := fun k u => ⟨fun e => by rw [show u = Value.bool k from e]; exact PpSet.boolK_is P w k, fun h => PpSet.isB_shape h⟩
  rep := fun _ _ k => .bl k
  enc := .bool
  al := fun _ _ => rfl
  oth := fun a => ⟨fun e => (nomatch e), fun xs e => (nomatch e)⟩
  dep := fun _ => rfl
  rd := fun h k u q => by rw [PpSet.isB_shape q]; exact .bool _
  lt := fun a b => !a && b
  le := by
    rw [PySem.W.dataLe_eq]
    funext a b
    cases a <;> cases b <;> decide +kernel
  irr := fun a => by cases a <;> rfl
  tr := fun a b c h1 h2 => by cases a <;> cases b <;> cases c <;> simp at *
  tri := fun a b h1 h2 => by cases a <;> cases b <;> simp at *
  eqd := fun a b => by simp only [D.eq]; cases a <;> cases b <;> rfl
  ltd := fun a b => rfl
/-! ### the rule -/
section
variable {X : Cx} {κ : Type} [DecidableEq κ]
def setO (Z : OrdK X.prog X.w κ) (a : Addr) (S : κ → Bool) (n : Nat) : HO := .ext fun h => Z.toSetK.upTo h a S n
def rSetL (Z : OrdK X.prog X.w κ) (K : PySem.W.Frag) : List V → Hp → VK → Prop := fun xs H Q => ∃ (p : Addr) (ks : List κ), xs = [.ref p] ∧ SqL K H p (ks.map Z.vk) ∧ ks.length + 1 < 4096 ∧ ∀ a, H a = none → Q (.ref a) (upd H a (setO Z a (fun j => decide (j ∈ ks)) ks.length))
theorem call_setK (hc : X.calm = true) (Z : OrdK X.prog X.w κ) : CallR X (.type "set") (rSetL Z X.K) := by
  intro pins s σ H xs us Q I r h
  obtain ⟨p, ks, rfl, hs, hl, q⟩ := h
  rw [Vals.ref1 r]
  obtain ⟨its, rv, pl, hz⟩ := I.list hs
  have hlen := rv.length
  refine call_setL (Z := Z.toSetK) ks (I.ok.hd hc) pl.isList (by rw [List.size_toArray, ← hlen, List.length_map]) (fun i v hv => ?_) hl fun h' tk R kp => ?_
  · have hi : i < its.length := by have := (Array.getElem?_eq_some_iff.mp hv).1; simpa using this
    have hk : i < ks.length := by rw [List.length_map] at hlen; omega
    refine ⟨ks[i], List.getElem?_eq_getElem hk, ?_⟩
    obtain ⟨u, hu, ru⟩ := rv.get (i := i) (x := Z.vk ks[i]) (by rw [List.getElem?_map, List.getElem?_eq_getElem hk]; rfl)
    have : u = v := by
      have e : its.toArray[i]? = some u := by simpa using hu
      rw [hv] at e
      exact (Option.some.inj e).symm
    subst this
    exact (Z.rel _ _).1 ru
  · have hn : H s.heap.objs.size = none := I.hok.fresh (Nat.le_refl _)
    have R0 := R
    obtain ⟨⟨o, _, _, _, ho, _⟩, _⟩ := R0
    refine ⟨.ref _, _, I.laid (a := s.heap.objs.size) (o := setO Z s.heap.objs.size (fun j => decide (j ∈ ks)) ks.length) (t' := tk) kp (Nat.le_refl _) ?_, rfl, q _ hn⟩
    exact ⟨R, ⟨o, ho⟩, fun h1 h2 p k => SetK.upTo.keep p k⟩
def rSortK (Z : OrdK X.prog X.w κ) : List V → Hp → VK → Prop := fun xs H Q => ∃ (a : Addr) (S : κ → Bool) (n : Nat), xs = [.ref a] ∧ H a = some (setO Z a S n) ∧ n < 4096 ∧
  ∀ (ks : List κ) (p : Addr), Z.rising ks → (∀ k, k ∈ ks ↔ S k = true) → H p = none → Q (.ref p) (upd H p (.lst (ks.map Z.vk)))
theorem call_sortK (hc : X.calm = true) (hu : X.A.units + 8 < cLine) (Z : OrdK X.prog X.w κ) : CallR X (.builtin "sorted") (rSortK Z) := by
  intro pins s σ H vs us Q I r h
  obtain ⟨a, S, n, rfl, ha, hn4, q⟩ := h
  have R : Z.toSetK.upTo s.heap a S n := (I.hok a _ ha).1
  rw [Vals.ref1 r]
  refine sk_sorted R hn4 (I.ok.hd hc) hu fun s' p out c ks k g o hp hg hv hr hm hl => ?_
  have hn : H p = none := I.hok.fresh hp
  have hlen : (ks.map Z.vk).length ≤ sizeLine := by rw [List.length_map, sizeLine_eq]; omega
  have J : Inv X pins σ (upd H p (.lst (ks.map Z.vk))) { s with heap := s'.heap, gens := s'.gens, drawn := s'.drawn, toks := s'.toks } :=
    I.call (ch := []) (Un.laid k hp hn) (I.hok.laid k hp ⟨hlen, out, c, hv, hg⟩) (by rw [g]; exact I.bare) (fun _ z => nomatch z)
  have e : s' = { s with heap := s'.heap, gens := s'.gens, drawn := s'.drawn, toks := s'.toks } := by
    cases s'
    cases s
    cases o
    rfl
  rw [e]
  exact ⟨.ref p, _, J, rfl, q ks p hr hm hn⟩
theorem ks_reps (Z : OrdK X.prog X.w κ) {G : Hp} : ∀ ks : List κ, Reps X.K G (ks.map Z.vk) (ks.map Z.dk)
  | [] => .nil
  | k :: ks => .cons (Z.rep _ _ k) (ks_reps Z ks)
theorem sset_rd (Z : OrdK X.prog X.w κ) {H G : Hp} {p : Addr} {ks : List κ} {Q : VK} (s : Same G H) (hp : H p = some (.lst (ks.map Z.vk))) (hl : ks.length < 1000)
    (q : ∀ v H' G', Ext H G H' G' → RepF X.K H H' G' v (.lst ((ks.map Z.dk).foldr (insD D.lt1) [])) → Q v H') : rSetL Z X.K [.ref p] H fun v H' => rSortK Z [v] H' Q := by
  refine ⟨p, ks, rfl, .inl (.inl hp), by omega, fun a ha => ⟨a, _, ks.length, rfl, upd_same, by omega, fun os l ho hm hl => ?_⟩⟩
  obtain ⟨m, e1, r1, m1⟩ := foldr_rise (Z := Z) ks
  have e : os = m := rise_uniq ho r1 fun k => by rw [hm k, m1 k, decide_eq_true_eq]
  subst e
  rw [e1] at q
  have x0 : Ext H G (upd H a (setO Z a (fun j => decide (j ∈ ks)) ks.length)) G := Ext.newO s ha
  have hl0 : H l = none := same_none x0.hh hl
  exact q _ _ G (x0.trans (Ext.newO x0.gh hl)) (.inr ⟨l, rfl, hl0, same_none s hl0, .lst upd_same (ks_reps Z os)⟩)
end
theorem allI {K : PySem.W.Frag} {G : Hp} : ∀ {vs : List V} {xs : List D}, Reps K G vs xs → xs.all D.isIn = true → ∃ ks : List Int, vs = ks.map V.int ∧ xs = ks.map D.int
  | _, [], r, _ => ⟨[], by rw [r.nilOf]; rfl, rfl⟩
  | _, x :: xs, r, h => by
    obtain ⟨v, ws, rfl, r1, r2⟩ := r.consOf
    rw [List.all_cons, Bool.and_eq_true] at h
    obtain ⟨ks, rfl, rfl⟩ := allI r2 h.2
    cases x with
    | int i => cases r1; exact ⟨i :: ks, rfl, rfl⟩
    | _ => cases h.1
theorem allB {K : PySem.W.Frag} {G : Hp} : ∀ {vs : List V} {xs : List D}, Reps K G vs xs → xs.all D.isBl = true → ∃ ks : List Bool, vs = ks.map V.bl ∧ xs = ks.map D.bl
  | _, [], r, _ => ⟨[], by rw [r.nilOf]; rfl, rfl⟩
  | _, x :: xs, r, h => by
    obtain ⟨v, ws, rfl, r1, r2⟩ := r.consOf
    rw [List.all_cons, Bool.and_eq_true] at h
    obtain ⟨ks, rfl, rfl⟩ := allB r2 h.2
    cases x with
    | bl i => cases r1; exact ⟨i :: ks, rfl, rfl⟩
    | _ => cases h.1
theorem allS {K : PySem.W.Frag} {G : Hp} : ∀ {vs : List V} {xs : List D}, Reps K G vs xs → xs.all SR.isS = true → ∃ ks : List Str, vs = ks.map V.str ∧ xs = ks.map fun z => D.str (tl z)
  | _, [], r, _ => ⟨[], by rw [r.nilOf]; rfl, rfl⟩
  | _, x :: xs, r, h => by
    obtain ⟨v, ws, rfl, r1, r2⟩ := r.consOf
    rw [List.all_cons, Bool.and_eq_true] at h
    obtain ⟨ks, rfl, rfl⟩ := allS r2 h.2
    cases x with
    | str i => cases r1 with | str z => exact ⟨z :: ks, rfl, rfl⟩
    | _ => cases h.1
theorem kind1_of {xs : List D} (h : kind1 xs = true) : xs.all D.isBl = true ∨ xs.all D.isIn = true ∨ xs.all SR.isS = true := by
  unfold kind1 at h
  rw [Bool.or_eq_true, Bool.or_eq_true] at h
  exact h
section
variable {X : Cx} {ea : EA} {W : WX} {m : Mode} {e a b : Expr} {es : List Expr} {p pos pos' p2 pos2 : Pos} {f g : EX}
theorem boot_sorted : bootBuiltins "sorted" = some (.builtin "sorted") := by boot_by_name
theorem boot_set : bootBuiltins "set" = some (.type "set") := by boot_by_name
/-- sorted(set(x)) -/
theorem b_sset (hc : X.calm = true) (hu : X.A.units + 64 < cLine) (hm : X.mg "sorted" = none) (hm2 : X.mg "set" = none) (ha : EB X ea W a f) (h : glB X "sorted" = true := by kernel_rfl) (h2 : glB X "set" = true := by kernel_rfl)
    (he : starEach (a :: []) X.env = (false, eval a X.env) :: starEach [] X.env := by rfl) (he2 : starEach (.Call (.Name "set" p2) [a] [] pos2 :: []) X.env = (false, eval (.Call (.Name "set" p2) [a] [] pos2) X.env) :: starEach [] X.env := by rfl) :
    EF X ea W (.Call (.Name "sorted" p) [.Call (.Name "set" p2) [a] [] pos2] [] pos) (un dSSet f) := by
  have c1 := (call_setK hc (ordB X.prog X.w)).or ((call_setK hc (ordI X.prog X.w)).or (call_setK hc (ordS X.prog X.w)))
  have c2 := (call_sortK hc (by omega) (ordB X.prog X.w)).or ((call_sortK hc (by omega) (ordI X.prog X.w)).or (call_sortK hc (by omega) (ordS X.prog X.w)))
  refine PE.imp (pe_callB c2 (glB_of h).gl hm boot_sorted (pa_cons (pe_callTy c1 (glB_of h2).gl hm2 boot_set (pa_cons ha pa_nil he) (glB_of h2).d2 (glB_of h2).d1 he rfl) pa_nil he2) (glB_of h).d2 (glB_of h).d1 he2 rfl) fun σ H Q ⟨ρ, G, ok, q⟩ => ?_
  refine ⟨ρ, G, ok, q.bind fun d v H1 G1 x1 m1 q1 => ?_⟩
  have q2 := q1.extF x1
  unfold dSSet at q2
  split at q2
  · rename_i xs
    split at q2
    · rename_i hk
      rw [Bool.and_eq_true, decide_eq_true_eq] at hk
      obtain ⟨pp, vs, rfl, hp, r⟩ := RepB.lst x1.gh m1
      rcases kind1_of hk.1 with k | k | k
      · obtain ⟨ks, rfl, rfl⟩ := allB r k
        obtain ⟨p', ks', e1, e2, e3, e4⟩ := sset_rd (ordB X.prog X.w) x1.gh hp (by simpa using hk.2) q2
        exact .inl ⟨p', ks', e1, e2, e3, fun a ha => .inl (e4 a ha)⟩
      · obtain ⟨ks, rfl, rfl⟩ := allI r k
        obtain ⟨p', ks', e1, e2, e3, e4⟩ := sset_rd (ordI X.prog X.w) x1.gh hp (by simpa using hk.2) q2
        exact .inr (.inl ⟨p', ks', e1, e2, e3, fun a ha => .inr (.inl (e4 a ha))⟩)
      · obtain ⟨ks, rfl, rfl⟩ := allS r k
        obtain ⟨p', ks', e1, e2, e3, e4⟩ := sset_rd (ordS X.prog X.w) x1.gh hp (by simpa using hk.2) q2
        exact .inr (.inr ⟨p', ks', e1, e2, e3, fun a ha => .inr (.inr (e4 a ha))⟩)
    · exact q2.elim
  · exact q2.elim
end
end SR

set_option linter.all false
set_option autoImplicit false
set_option Elab.async false
set_option maxRecDepth 100000
set_option maxHeartbeats 1000000
/-! SRn: what the top has left; the end. -/
namespace SR
open PySem PySem.Spec PyProof.Rows L2 TL RZ
section
variable {K : PySem.W.Frag} {h : Heap} {mg : Str → Option Value} {w : World}
theorem defk {x qual : Str} {st : Stmt} {ps : List Str} {f : Addr} {oc : Value} {od an : Option Addr} {osl : Array (Option Value)} {kV doc pm cdv ct : Value} (X : K.In h) (G : h.Ns mainGlobals mg)
    (hb : ∀ (kV doc pm : Value) (an : Option Addr) (cdv ct : Value) (us : List Value), us.length = ps.length → bindArgs (PySem.W.fnOf x qual (defArgs st) (defBody st) (defScope st) .none kV doc pm an cdv ct) ⟨us, []⟩ = pure (ps.zip us))
    (a : PySem.W.nsIn K mainGlobals x = some (some (.ref f))) (l : K.lookup f = some ⟨oc, od, .func (PySem.W.fnOf x qual (defArgs st) (defBody st) (defScope st) .none kV doc pm an cdv ct), osl⟩)
    (c : PySem.W.codeIn K cdv qual = true) (k : PySem.W.keepIn K (.ref f) = true) : DefK K mg x qual st ps := ⟨f, _, fun_mk l c k, PySem.W.mg_of X G a, hb kV doc pm an cdv ct⟩
theorem excc {x : Str} {C : Addr} (X : K.In h) (G : h.Ns mainGlobals mg) (a : PySem.W.nsIn K mainGlobals x = some (some (.ref C)))
    (e : PySem.W.excIn K C [.type "ValueError", .type "Exception", .type "BaseException", .type "object"] "ValueError.__new__" = true) (k : PySem.W.keepIn K (.ref C) = true)
    (r1 : PySem.W.subIn K (.ref C) (.type "BaseException") = some true) (r2 : PySem.W.typeIn K (.ref C) = some (.type "type")) : ExcC K mg C x := ⟨PySem.W.mg_of X G a, e, k, r1, r2⟩
theorem gint_of {x : Str} {i : Int} {t : Tok} (X : K.In h) (G : h.Ns mainGlobals mg) (a : PySem.W.nsIn K mainGlobals x = some (some (.int i t))) : ∃ t, mg x = some (.int i t) := ⟨t, PySem.W.mg_of X G a⟩
theorem gstr_of {x : Str} {z : Str} {y : SR.Txt} {t : Tok} (X : K.In h) (G : h.Ns mainGlobals mg) (a : PySem.W.nsIn K mainGlobals x = some (some (.str z t))) (e : tl z = y) : ∃ z t, mg x = some (.str z t) ∧ tl z = y := ⟨z, t, PySem.W.mg_of X G a, e⟩
theorem exm1 {C D : Addr} {x y : Str} (b : Bool) (e1 : ExcC K mg C x) (e2 : ExcC K mg D y) (a : PySem.W.exmOne K (.ref C) (.ref D) = some b) : PySem.W.exmOne K (.ref C) (.ref D) = some b := a
theorem andThen {A B : Prop} (a : A) (b : A → B) : B := b a
/-- one entry of a dict of the top -/
def Ent (K : PySem.W.Frag) (e : DictEntry) (q : SR.Txt × D) : Prop := ∃ (z : Str) (t : Tok) (v : V), e.key = .str z t ∧ tl z = q.1 ∧ RelV v e.val ∧ ∀ G, Rep K G v q.2
theorem ent_find {K : PySem.W.Frag} (z : Str) : ∀ {es : List DictEntry} {ps : List (SR.Txt × D)}, Paired (Ent K) es ps →
    (lookT ps (tl z) = none ∧ es.find? (·.key.isStr z) = none ∧ es.any (·.refKey) = false) ∨ ∃ d v e, lookT ps (tl z) = some d ∧ es.find? (·.key.isStr z) = some e ∧ RelV v e.val ∧ ∀ G, Rep K G v d
  | _, _, .nil => .inl ⟨rfl, rfl, rfl⟩
  | _, _, @Paired.cons _ _ _ e q es ps hd t => by
    obtain ⟨y, tk, v, hk, hy, rv, rg⟩ := hd
    have hkey : e.key.isStr z = (y == z) := by rw [hk]; rfl
    have hl : (q.1 == tl z) = (y == z) := by
      rw [← hy, Bool.eq_iff_iff, beq_iff_eq, beq_iff_eq]
      exact ⟨fun e => ext_tl e, fun e => by rw [e]⟩
    by_cases hz : (y == z) = true
    · refine .inr ⟨q.2, v, e, ?_, ?_, rv, rg⟩
      · unfold lookT
        rw [List.find?_cons, hl, hz]; rfl
      · rw [List.find?_cons, hkey, hz]
    · have hz' : (y == z) = false := by simpa using hz
      rcases ent_find z t with ⟨h1, h2, h3⟩ | ⟨d, v', e', h1, h2, r1, r2⟩
      · refine .inl ⟨?_, ?_, ?_⟩
        · unfold lookT at h1 ⊢
          rw [List.find?_cons, hl, hz']; exact h1
        · rw [List.find?_cons, hkey, hz']; exact h2
        · rw [List.any_cons, h3, Bool.or_false]
          show e.refKey = false
          unfold DictEntry.refKey
          rw [hk]
      · refine .inr ⟨d, v', e', ?_, ?_, r1, r2⟩
        · unfold lookT at h1 ⊢
          rw [List.find?_cons, hl, hz']; exact h1
        · rw [List.find?_cons, hkey, hz']; exact h2
theorem ktop {x : Str} {p : Addr} {es : Array DictEntry} {n : Nat} {ps : List (SR.Txt × D)} (X : K.In h) (G : h.Ns mainGlobals mg) (a : PySem.W.nsIn K mainGlobals x = some (some (.ref p)))
    (l : K.lookup p = some ⟨.type "dict", none, .dict es n, #[]⟩) (hk : PySem.W.KeysLit w.params es.toList) (lo : (p == sysModules) = false) (en : Paired (Ent K) es.toList ps) : KTop K w mg x ps := by
  refine ⟨p, PySem.W.mg_of X G a, ⟨es, n, l, hk⟩, lo, fun z => ?_⟩
  rcases ent_find z en with ⟨h1, h2, h3⟩ | ⟨d, v, e, h1, h2, r1, r2⟩
  · refine .inl ⟨h1, ?_⟩
    unfold PySem.W.nsIn
    rw [l]
    simp only
    rw [h2, h3]
    rfl
  · refine .inr ⟨d, v, e.val, h1, ?_, r1, r2⟩
    unfold PySem.W.nsIn
    rw [l]
    simp only
    rw [h2]
end
/-- the law's promise -/
def spL (K : PySem.W.Frag) (run : List D → Res D) : Sp := fun vs H Q _ => vs.length = 1 ∧ ∃ G ds, Same G H ∧ Reps K G vs ds ∧ match run ds with
  | .ok d => ∀ v H' G', Ext H G H' G' → mG K H H' G' v d → Q v H'
  | _ => False
/-- the law's call -/
theorem end_of {l : PySem.W.OpenLaw} {n k : Nat} {q : Program} {loose : List Str} {XP : (Str → Option Value) → Heap → Prop} {YP : World → Heap → Prop} {d : DefRec} {K : Params → PySem.W.Frag} {x : Str} {run : List D → Res D}
    (hn : l.most = some n) (hn2 : n ≤ sizeLine) (hdf : d.params.defaults = []) (hr : Room k callerA) (hY : ∀ (w : World) (h : Heap), YP w h → (K w.params).In h)
    (F : ∀ (w : World) (mg : Str → Option Value) (h : Heap), (K w.params).In h → h.Ns mainGlobals mg → ∃ ea, ∀ base : Heap, (K w.params).In base → base.Ns mainGlobals mg → Fn l.prog w (K w.params) mg base ea d.name (mG (K w.params)) k [x] run)
    (law : ∀ ns : List Int, ns.length ≤ n → run [.scr ns] = .ok (.bl true)) :
    PySem.W.WalkO q loose XP YP l.row.toRowW d [] (fun f vs => PySem.call f vs) := by
  refine L2.walk_of (K := K) (CX := fun w => L2.CX l.prog w) (sp := fun w => spL (K w.params) run) (x := x) (k := k) hn hn2 hdf hr hY (fun w mg fa h KX G hmg => ?_) (fun w H a ns hl hO hS => ?_) (fun w H s e s' hx => ?_)
  · obtain ⟨ea, F⟩ := F w mg h KX G
    obtain ⟨f, fd, _, hm, _, hb, oc, od, sl, lk⟩ := (F h KX G).ex
    rw [hmg] at hm
    cases hm
    refine ⟨fd, fun s u => .of_eq (hb [u] rfl), fun base KB GB => ?_⟩
    obtain ⟨f', fd', F', hm', _, hb', oc', od', sl', lk'⟩ := (F base KB GB).ex
    rw [hmg] at hm'
    cases hm'
    rw [lk] at lk'
    cases lk'
    refine F'.imp fun vs H Q E ⟨hl, G1, ds, s1, r1, q⟩ => ⟨hl, G1, ds, s1, r1, ?_⟩
    cases e : run ds with
    | ok d => rw [e] at q; exact q
    | rs c => rw [e] at q; exact q.elim
    | bad => rw [e] at q; exact q
  · refine ⟨rfl, H, [.scr ns], Same.refl _, .cons (.scr hS) .nil, ?_⟩
    rw [law ns hl]
    exact fun v H' G' x m => by cases m; rfl
  · obtain ⟨_, _, _, _, _, _, _, _, _, _, _, _, z⟩ := hx
    exact z
end SR

set_option linter.all false
set_option autoImplicit false
set_option Elab.async false
set_option maxRecDepth 100000
/-! SS2: a tuple in a dict of the top. -/
namespace SR
open PySem PySem.Spec PyProof.Rows L2 TL RZ
theorem ent_yn {K : PySem.W.Frag} {e : DictEntry} {z zz : Str} {t tt : Tok} {x y : SR.Txt} {a : Addr} {n : Nat} {od : Option Addr} {ss : Array (Option Value)} (hk : e.key = .str z t) (hz : tl z = x) (hv : e.val = .ref a)
    (l : K.lookup a = some ⟨.type "tuple", od, .seq #[.str zz tt] n, ss⟩) (hy : tl zz = y) (h : y = [121, 101, 115] ∨ y = [110, 111]) : Ent K e (x, .tup [.str y]) := by
  refine ⟨z, t, .ref a, hk, hz, hv, fun G => ?_⟩
  subst hy
  exact .tupK (.inr ⟨_, _, _, l, rfl, rfl, by rw [sizeLine_eq]; show 1 ≤ 16777216; decide, .cons ⟨tt, rfl⟩ .nil⟩) h
end SR

set_option linter.all false
set_option autoImplicit false
set_option Elab.async false
set_option maxRecDepth 100000
set_option maxHeartbeats 2000000
/-! SRo: zip of lists, tuples and texts, mixed. -/
namespace SR
open PySem PySem.Spec PyProof.Rows L2 TL RZ
open PySem.Sem (wp)
abbrev zx (h : Heap) (o1 o2 : Obj) : Heap := (h.push o1).push o2
abbrev zx3 (h : Heap) (o1 o2 : Obj) : Heap := (zx h o1 o2).push { cls := .type "tuple", data := .seq #[.ref h.objs.size, .ref (h.push o1).objs.size] }
abbrev zx4 (h : Heap) (o1 o2 : Obj) : Heap := (zx3 h o1 o2).push { cls := .type "tuple", data := .seq #[.none, .none] }
abbrev zx5 (h : Heap) (o1 o2 : Obj) : Heap := (zx4 h o1 o2).push { cls := .type "zip", data := .fields #[.none, .bool false, .bool false, .ref (zx h o1 o2).objs.size, .ref (zx3 h o1 o2).objs.size] }
/-- iter(v) lays o -/
def Lays (v : Value) (o : Obj) (s : Shared) : Prop := ∀ (prog : Program) (w : World) (A : Around) (E : Value → Shared → Prop) (Q : Value → Shared → Prop), Q (.ref s.heap.objs.size) { s with heap := s.heap.push o } → wpAny (model prog w) A (pyIter v) Q E s
theorem meets_zipX (v1 v2 : Value) (o1 o2 : Obj) :
    Meets (Builtin.«zip.__new__» ⟨[.type "zip", v1, v2], []⟩) (fun _ R s => Lays v1 o1 s ∧ Lays v2 o2 { s with heap := s.heap.push o1 } ∧
      R (.ok (.ret (.ref (zx4 s.heap o1 o2).objs.size))) { s with heap := zx5 s.heap o1 o2 }) :=
  .of_wp fun prog w A R s h => by
    obtain ⟨hp, g, d, tk, os⟩ := s; obtain ⟨hl1, hl2, h⟩ := h
    have hsub := sub_zip
    unfold Lays at hl1 hl2
    wp_walk using hl1 _ _ _ _ _, hl2 _ _ _ _ _
    exact ⟨_, rfl, h⟩
section
variable {prog : Program} {w : World} {A : Around} {E : Value → Shared → Prop} {s : Shared}
theorem call_zipX {v1 v2 : Value} {o1 o2 : Obj} {Q : Value → Shared → Prop} (hl1 : Lays v1 o1 s) (hl2 : Lays v2 o2 { s with heap := s.heap.push o1 }) (f1 : o1.isFreed = false) (f2 : o2.isFreed = false)
    (h : ∀ h', IsZip h' (s.heap.objs.size + 4) (s.heap.objs.size + 2) (s.heap.objs.size + 3) .none → IsTupOf2 h' (s.heap.objs.size + 2) (.ref s.heap.objs.size) (.ref (s.heap.objs.size + 1)) →
      IsTupOf2 h' (s.heap.objs.size + 3) .none .none → h'.get? s.heap.objs.size = some o1 → h'.get? (s.heap.objs.size + 1) = some o2 → h'.objs.size = s.heap.objs.size + 5 →
      (∀ c o, s.heap.get? c = some o → h'.get? c = some o) → Q (.ref (s.heap.objs.size + 4)) { s with heap := h' }) :
    wpAny (model prog w) A (call (.type "zip") [v1, v2]) Q E s := by
  refine callType_new F.called_zip (by decide) (F.typeCall_zip_2 _ _) (F.newCall_zip_2 _ _) (fun obj => F.args_object_init_3 obj _ _) F.entry_zip_new
    (meets_zipX v1 v2 o1 o2) ⟨hl1, hl2, ?_⟩
  have z1 : (s.heap.push o1).objs.size = s.heap.objs.size + 1 := Heap.size_push ..
  have z2 : (zx s.heap o1 o2).objs.size = s.heap.objs.size + 2 := by rw [Heap.size_push, z1]
  have z3 : (zx3 s.heap o1 o2).objs.size = s.heap.objs.size + 3 := by rw [Heap.size_push, z2]
  have z4 : (zx4 s.heap o1 o2).objs.size = s.heap.objs.size + 4 := by rw [Heap.size_push, z3]
  have z5 : (zx5 s.heap o1 o2).objs.size = s.heap.objs.size + 5 := by rw [Heap.size_push, z4]
  have g5 : (zx5 s.heap o1 o2).get? (zx4 s.heap o1 o2).objs.size = some _ := Heap.get?_push_size _ rfl
  have g4 : (zx5 s.heap o1 o2).get? (zx3 s.heap o1 o2).objs.size = some _ := Heap.get?_push_of_some _ (Heap.get?_push_size _ rfl)
  have g3 : (zx5 s.heap o1 o2).get? (zx s.heap o1 o2).objs.size = some _ := Heap.get?_push_of_some _ (Heap.get?_push_of_some _ (Heap.get?_push_size _ rfl))
  have g2 : (zx5 s.heap o1 o2).get? (s.heap.push o1).objs.size = some _ := Heap.get?_push_of_some _ (Heap.get?_push_of_some _ (Heap.get?_push_of_some _ (Heap.get?_push_size _ f2)))
  have g1 : (zx5 s.heap o1 o2).get? s.heap.objs.size = some _ := Heap.get?_push_of_some _ (Heap.get?_push_of_some _ (Heap.get?_push_of_some _ (Heap.get?_push_of_some _ (Heap.get?_push_size _ f1))))
  show _ ∧ _
  rw [z2, z3, z4] at g5
  rw [z1, z2] at g3
  rw [z3] at g4
  rw [z1] at g2
  rw [z4]
  exact ⟨⟨_, g5, rfl⟩, h _ g5 g3 g4 g1 g2 z5 fun c o x =>
    Heap.get?_push_of_some _ (Heap.get?_push_of_some _ (Heap.get?_push_of_some _ (Heap.get?_push_of_some _ (Heap.get?_push_of_some _ x))))⟩
end
/-! ### what may be zipped -/
inductive ZS where
  | lst (a : Addr) | tup (a : Addr) | str (z : Str)
def ZS.vs (K : PySem.W.Frag) (H : Hp) : ZS → List V → Prop
  | .lst a, vs => SqL K H a vs
  | .tup a, vs => SqT K H a vs
  | .str z, vs => vs = (tl z).map fun c => V.str ⟨#[c]⟩
def ZS.v : ZS → V
  | .lst a => .ref a
  | .tup a => .ref a
  | .str z => .str z
/-- the iterator at it, its i-th step to come -/
def ZS.it (h : Heap) (it : Addr) (i : Nat) : ZS → Prop
  | .lst a => h.IsListIter it a i
  | .tup a => h.IsTupleIter it a i
  | .str z => ∃ t, h.IsStrIter it (strIterType z) z t i
theorem ZS.at {s : ZS} {h h' : Heap} {it : Addr} {i : Nat} (x : s.it h it i) (k : ∀ o, h.get? it = some o → h'.get? it = some o) : s.it h' it i := by
  cases s with
  | lst a => exact Heap.IsListIter.at x k
  | tup a => exact Heap.IsTupleIter.at x k
  | str z => obtain ⟨t, o, e, r⟩ := x; exact ⟨t, o, k o e, r⟩
theorem ZS.ob {s : ZS} {h : Heap} {it : Addr} {i : Nat} (x : s.it h it i) : ∃ o, h.get? it = some o ∧ ∀ v, o.data ≠ .cell v := by
  cases s with
  | lst a => obtain ⟨o, e, _, d⟩ := x; exact ⟨o, e, fun v q => by rw [d] at q; cases q⟩
  | tup a => obtain ⟨o, e, _, d⟩ := x; exact ⟨o, e, fun v q => by rw [d] at q; cases q⟩
  | str z => obtain ⟨t, o, e, _, d⟩ := x; exact ⟨o, e, fun v q => by rw [d] at q; cases q⟩
theorem Draws.tup {prog : Program} {w : World} {A : Around} (hh : A.handled = none) (it l : Addr) (hne : l ≠ it) (items : Array Value) :
    Draws prog w A it [it, l] items.size (fun i v => items[i]? = some v) (fun i h => h.IsTupleIter it l i ∧ h.IsTuple l items) where
  live := fun _ _ st => let ⟨o, ho, _⟩ := st.1; ⟨o, ho⟩
  frame := fun _ _ _ st hk => ⟨st.1.at fun o e => hk it (by simp) o e, by obtain ⟨o, ho, r⟩ := st.2; exact ⟨o, hk l (by simp) o ho, r⟩⟩
  item := fun i s Q E hi st hQ => by
    refine nextOf_tuple_item st.1 st.2 (x := items[i]) (by simp [hi]) fun h' hit' hs' => ?_
    exact hQ _ h' s.toks (by simp [hi]) ⟨hit', st.2.extBut hs'.extBut hne⟩ hs'
  done := fun s Q E st hE => nextOf_tuple_end hh st.1 st.2 (by simp) hE
def ZS.below (b0 : Nat) : ZS → Prop
  | .lst a => a < b0
  | .tup a => a < b0
  | .str _ => True
/-- one side, drawn from -/
theorem ZS.draws {X : Cx} {pins : List (Addr × Obj)} {σ : Sg} {H : Hp} {s : Shared} (I : Inv X pins σ H s) {A : Around} (hh : A.handled = none) {src : ZS} {vs : List V} (hv : src.vs X.K H vs) {it : Addr} {i : Nat} (hit : src.it s.heap it i) (b0 : Nat) (hb0 : src.below b0) :
    ∃ (fp : List Addr) (P : Nat → Value → Prop) (St : Nat → Heap → Prop), Draws X.prog X.w A it fp vs.length P St ∧ it ∈ fp ∧ St i s.heap ∧ (∀ j h, St j h → src.it h it j) ∧ (∀ j u, P j u → ∃ v, vs[j]? = some v ∧ RelV v u) ∧ (∀ b ∈ fp, b = it ∨ b < b0) := by
  cases src with
  | lst a =>
    obtain ⟨its, rv, pl, _⟩ := I.list hv
    have hne : a ≠ it := fun e => by
      subst e
      obtain ⟨o, e1, c1, _⟩ := pl.isList
      obtain ⟨o', e2, c2, _⟩ := hit
      rw [e1] at e2
      cases e2
      rw [c1] at c2
      exact absurd c2 (by decide)
    have hl := rv.length
    have hD := Draws.list (prog := X.prog) (w := X.w) hh it a hne its.toArray
    rw [show its.toArray.size = vs.length by simp [hl]] at hD
    refine ⟨_, _, _, hD, by simp, ⟨hit, pl.isList⟩, fun j h st => st.1, fun j u hu => ?_, fun b hb => ?_⟩
    · have hj : j < vs.length := by rw [hl]; have := (Array.getElem?_eq_some_iff.mp hu).1; simpa using this
      obtain ⟨u', hu', r⟩ := rv.get (List.getElem?_eq_getElem hj)
      have : u' = u := by
        have e : its.toArray[j]? = some u' := by simpa using hu'
        rw [hu] at e
        exact (Option.some.inj e).symm
      subst this
      exact ⟨_, List.getElem?_eq_getElem hj, r⟩
    · have e : b = it ∨ b = a := by simpa using hb
      rcases e with e | e
      · exact .inl e
      · subst e; exact .inr hb0
  | tup a =>
    obtain ⟨its, rv, pl, _⟩ := I.tuple hv
    have hne : a ≠ it := fun e => by
      subst e
      obtain ⟨o, e1, c1, _⟩ := id pl
      obtain ⟨o', e2, c2, _⟩ := hit
      rw [e1] at e2
      cases e2
      rw [c1] at c2
      exact absurd c2 (by decide)
    have hl := rv.length
    have hD := Draws.tup (prog := X.prog) (w := X.w) hh it a hne its.toArray
    rw [show its.toArray.size = vs.length by simp [hl]] at hD
    refine ⟨_, _, _, hD, by simp, ⟨hit, pl⟩, fun j h st => st.1, fun j u hu => ?_, fun b hb => ?_⟩
    · have hj : j < vs.length := by rw [hl]; have := (Array.getElem?_eq_some_iff.mp hu).1; simpa using this
      obtain ⟨u', hu', r⟩ := rv.get (List.getElem?_eq_getElem hj)
      have : u' = u := by
        have e : its.toArray[j]? = some u' := by simpa using hu'
        rw [hu] at e
        exact (Option.some.inj e).symm
      subst this
      exact ⟨_, List.getElem?_eq_getElem hj, r⟩
    · have e : b = it ∨ b = a := by simpa using hb
      rcases e with e | e
      · exact .inl e
      · subst e; exact .inr hb0
  | str z =>
    have hv' : vs = (tl z).map fun c => V.str ⟨#[c]⟩ := hv
    have hl : vs.length = z.cps.size := by rw [hv', List.length_map, ← len_tl]; rfl
    obtain ⟨t, hit⟩ := hit
    have hp : ∀ (j : Nat) (u : Value), (∃ c u', z.cps[j]? = some c ∧ u = .str ⟨#[c]⟩ u') → ∃ v, vs[j]? = some v ∧ RelV v u := by
      intro j u ⟨c, u', hc, e⟩
      refine ⟨.str ⟨#[c]⟩, ?_, by rw [e]; exact ⟨_, rfl⟩⟩
      rw [hv', List.getElem?_map]
      have : (tl z)[j]? = some c := by show z.cps.toList[j]? = _; rw [Array.getElem?_toList]; exact hc
      rw [this]; rfl
    unfold strIterType at hit
    rw [hl]
    by_cases ha : z.cps.all (· < 128) = true
    · rw [if_pos ha] at hit
      refine ⟨_, _, _, Draws.strAscii hh it z t, by simp, hit, fun j h st => ⟨t, by unfold strIterType; rw [if_pos ha]; exact st⟩, hp, fun b hb => .inl (by simpa using hb)⟩
    · rw [if_neg ha] at hit
      refine ⟨_, _, _, Draws.strWide hh it z t, by simp, hit, fun j h st => ⟨t, by unfold strIterType; rw [if_neg ha]; exact st⟩, hp, fun b hb => .inl (by simpa using hb)⟩
/-- zip of two of them -/
def ItzX (K : PySem.W.Frag) (s1 s2 : ZS) (vs ws : List V) : It :=
  ⟨fun i H => s1.vs K H vs ∧ s2.vs K H ws ∧ i < vs.length ∧ i < ws.length,
    fun i H v H' => ∃ T x y o, v = .ref T ∧ H T = none ∧ o.dict = none ∧ H' = upd H T (.frz o (.tup [x, y])) ∧ vs[i]? = some x ∧ ws[i]? = some y,
    fun i H => s1.vs K H vs ∧ s2.vs K H ws ∧ i ≤ vs.length ∧ i ≤ ws.length ∧ (i = vs.length ∨ i = ws.length)⟩
theorem turn_zipX {P : Program} {w : World} {K : PySem.W.Frag} {elts : List Expr} {kk : Nat} {tpos : Pos} {s1 s2 : ZS} {vs ws : List V} (b0 : Nat) (hb1 : s1.below b0) (hb2 : s2.below b0) :
    Turn P w K (.Tuple elts kk tpos) (ItzX K s1 s2 vs ws) [b0 + 4, b0 + 2, b0 + 3, b0, b0 + 1] (b0 + 4) (fun i h => IsZip h (b0 + 4) (b0 + 2) (b0 + 3) .none ∧ IsTupOf2 h (b0 + 2) (.ref b0) (.ref (b0 + 1)) ∧ (∃ x y, IsTupOf2 h (b0 + 3) x y) ∧ s1.it h b0 i ∧ s2.it h (b0 + 1) i) where
  mem := by simp
  obj := fun i h st c hc => by
    obtain ⟨hz, hTI, ⟨x, y, hTO⟩, h1, h2⟩ := st
    have e' : c = b0 + 4 ∨ c = b0 + 2 ∨ c = b0 + 3 ∨ c = b0 ∨ c = b0 + 1 := by simpa using hc
    rcases e' with q | q | q | q | q
    · rw [q]; exact ⟨_, hz, fun v q => nomatch q⟩
    · rw [q]; exact ⟨_, hTI, fun v q => nomatch q⟩
    · rw [q]; exact ⟨_, hTO, fun v q => nomatch q⟩
    · rw [q]; exact ZS.ob h1
    · rw [q]; exact ZS.ob h2
  keep := fun i h h' st k => by
    obtain ⟨hz, hTI, ⟨x, y, hTO⟩, h1, h2⟩ := st
    exact ⟨k _ (by simp) _ hz, k _ (by simp) _ hTI, ⟨x, y, k _ (by simp) _ hTO⟩, ZS.at h1 fun o q => k _ (by simp) o q, ZS.at h2 fun o q => k _ (by simp) o q⟩
  item := by
    intro X hP hw hK hc i pins s σ H E I hf st hg
    subst hP hw hK
    obtain ⟨hz, hTI, ⟨x0, y0, hTO⟩, h1, h2⟩ := st
    obtain ⟨hqx, hqy, hi1, hi2⟩ := hg
    obtain ⟨f1, P1, St1, D1, m1, st1, g1, v1, o1⟩ := ZS.draws I (A := X.A.in1) (I.ok.hd hc) hqx h1 b0 hb1
    obtain ⟨f2, P2, St2, D2, m2, st2, g2, v2, o2⟩ := ZS.draws I (A := X.A.in1) (I.ok.hd hc) hqy h2 b0 hb2
    have ne : ∀ i j : Nat, i ≠ j → ((b0 + i : Nat) : Addr) ≠ (b0 + j : Nat) := fun i j h e => h (Nat.add_left_cancel e)
    have out1 : ∀ k : Nat, k ≠ 0 → ((b0 + k : Nat) : Addr) ∉ f1 := fun k hk hm => by
      rcases o1 _ hm with q | q
      · exact ne k 0 hk q
      · exact absurd (show b0 + k < b0 from q) (by omega)
    have out2 : ∀ k : Nat, k ≠ 1 → ((b0 + k : Nat) : Addr) ∉ f2 := fun k hk hm => by
      rcases o2 _ hm with q | q
      · exact ne k 1 hk q
      · exact absurd (show b0 + k < b0 from q) (by omega)
    have S : ZipSep2 (b0 + 4) (b0 + 2) (b0 + 3) b0 (b0 + 1) f1 f2 :=
      ⟨ne 2 4 (by decide), ne 3 4 (by decide), ne 2 3 (by decide), ne 2 0 (by decide), m1, out1 4 (by decide), out1 3 (by decide), ne 2 1 (by decide), m2, out2 4 (by decide), out2 3 (by decide), out2 0 (by decide), out1 1 (by decide)⟩
    have hzl : b0 + 4 < s.heap.objs.size := Heap.lt_size hz
    refine wpAny_pyNext_zipD2_item S D1 D2 hz hTI hTO st1 st2 hi1 hi2 fun u u2 h' tk p1 p2 z' TO' h1' h2' hT hsz hk => ?_
    obtain ⟨x, hx, ru⟩ := v1 _ _ p1
    obtain ⟨y, hy, ru2⟩ := v2 _ _ p2
    refine ⟨_, rfl, wpAny_letOwnedTupleGo_zip (s := { s with heap := h', toks := tk }) z' fun h'' z'' sb => ?_⟩
    have hT2 : h''.get? s.heap.objs.size = some { cls := .type "tuple", data := .seq #[u, u2] } := (sb.2 _ (Nat.ne_of_gt hzl)).trans hT
    have new : ObjOk X.prog X.w (upd H s.heap.objs.size (.frz (tupOb [u, u2]) (.tup [x, y]))) h'' s.heap.objs.size (.frz (tupOb [u, u2]) (.tup [x, y])) :=
      ⟨hT2, by show 2 ≤ sizeLine; decide, [u, u2], .cons ru (.cons ru2 .nil), ⟨_, hT2, rfl, _, rfl⟩⟩
    have I1 : Inv X pins σ (upd H s.heap.objs.size (.frz (tupOb [u, u2]) (.tup [x, y]))) { s with heap := h'', toks := tk } :=
      I.turnedNew (t' := tk) (ch := [b0 + 4, b0 + 2, b0 + 3, b0, b0 + 1]) (fun c o hb q => (sb.2 c (fun q' => hb (by simp [q']))).trans (hk c o (fun q' => hb (by simp [q'])) (fun q' => hb (by simp [q'])) (fun q' => hb (by simp [q'])) (fun q' => hb (by simp [q'])) q)) hf (Nat.le_refl _) new
    refine ⟨.ref s.heap.objs.size, _, I1, rfl, ⟨_, x, y, _, rfl, I.hok.fresh (Nat.le_refl _), rfl, rfl, hx, hy⟩, ⟨z'', ?_, ⟨u, u2, ?_⟩, ?_, ?_⟩, fun c hcm => ?_⟩
    · exact (sb.2 _ (ne 2 4 (by decide))).trans (hk _ _ (ne 2 4 (by decide)) (ne 2 3 (by decide)) (ne 2 0 (by decide)) (ne 2 1 (by decide)) hTI)
    · exact (sb.2 _ (ne 3 4 (by decide))).trans TO'
    · exact ZS.at (g1 _ _ h1') fun o q => (sb.2 _ (ne 0 4 (by decide))).trans q
    · exact ZS.at (g2 _ _ h2') fun o q => (sb.2 _ (ne 1 4 (by decide))).trans q
    · have hlt : c < s.heap.objs.size := by
        have e' : c = b0 + 4 ∨ c = b0 + 2 ∨ c = b0 + 3 ∨ c = b0 ∨ c = b0 + 1 := by simpa using hcm
        rcases e' with q | q | q | q | q <;> rw [q]
        · exact hzl
        · exact Heap.lt_size hTI
        · exact Heap.lt_size hTO
        · obtain ⟨_, e1, _⟩ := ZS.ob h1; exact Heap.lt_size e1
        · obtain ⟨_, e1, _⟩ := ZS.ob h2; exact Heap.lt_size e1
      rw [upd_ne (Nat.ne_of_lt hlt)]
      exact (hf c hcm).1
  done := by
    intro X hP hw hK hc i pins s σ H E I hf st hg
    subst hP hw hK
    obtain ⟨hz, hTI, ⟨x0, y0, hTO⟩, h1, h2⟩ := st
    obtain ⟨hqx, hqy, hi1, hi2, hend⟩ := hg
    obtain ⟨f1, P1, St1, D1, m1, st1, g1, v1, o1⟩ := ZS.draws I (A := X.A.in1) (I.ok.hd hc) hqx h1 b0 hb1
    obtain ⟨f2, P2, St2, D2, m2, st2, g2, v2, o2⟩ := ZS.draws I (A := X.A.in1) (I.ok.hd hc) hqy h2 b0 hb2
    have ne : ∀ i j : Nat, i ≠ j → ((b0 + i : Nat) : Addr) ≠ (b0 + j : Nat) := fun i j h e => h (Nat.add_left_cancel e)
    have out1 : ∀ k : Nat, k ≠ 0 → ((b0 + k : Nat) : Addr) ∉ f1 := fun k hk hm => by
      rcases o1 _ hm with q | q
      · exact ne k 0 hk q
      · exact absurd (show b0 + k < b0 from q) (by omega)
    have out2 : ∀ k : Nat, k ≠ 1 → ((b0 + k : Nat) : Addr) ∉ f2 := fun k hk hm => by
      rcases o2 _ hm with q | q
      · exact ne k 1 hk q
      · exact absurd (show b0 + k < b0 from q) (by omega)
    have S : ZipSep2 (b0 + 4) (b0 + 2) (b0 + 3) b0 (b0 + 1) f1 f2 :=
      ⟨ne 2 4 (by decide), ne 3 4 (by decide), ne 2 3 (by decide), ne 2 0 (by decide), m1, out1 4 (by decide), out1 3 (by decide), ne 2 1 (by decide), m2, out2 4 (by decide), out2 3 (by decide), out2 0 (by decide), out1 1 (by decide)⟩
    exact wpAny_pyNext_zipD2_end S D1 D2 hz hTI hTO st1 st2 hi1 hi2 hend fun h' tk hk => ⟨rfl, I.turnedL (t' := tk) (ch := [b0 + 4, b0 + 2, b0 + 3, b0, b0 + 1]) (fun c o hb q =>
      hk c o (fun q' => hb (by simp [q'])) (fun q' => hb (by simp [q'])) (fun q' => hb (by simp [q'])) (fun q' => hb (by simp [q'])) q) hf⟩
  self := fun A i s Q E st h => wpAny_pyIter_zip st.1 h
theorem lays_of {X : Cx} {pins : List (Addr × Obj)} {σ : Sg} {H : Hp} {s : Shared} (I : Inv X pins σ H s) {src : ZS} {vs : List V} (hv : src.vs X.K H vs) {u : Value} (r : RelV src.v u) :
    ∃ o, Lays u o s ∧ (∀ o', Lays u o { s with heap := s.heap.push o' }) ∧ o.isFreed = false ∧ (∀ (h : Heap) (it : Addr), h.get? it = some o → src.it h it 0) ∧ src.below s.heap.objs.size := by
  cases src with
  | lst a =>
    cases r
    obtain ⟨its, rv, pl, _⟩ := I.list hv
    refine ⟨_, fun prog w A E Q q => wpAny_pyIter_list pl.isList q, fun o' prog w A E Q q => wpAny_pyIter_list (Heap.IsList.push pl.isList _) q, rfl, fun h it e => ⟨_, e, rfl, rfl⟩, ?_⟩
    exact pl.lt
  | tup a =>
    cases r
    obtain ⟨its, rv, pl, _⟩ := I.tuple hv
    refine ⟨_, fun prog w A E Q q => wpAny_pyIter_tuple pl q, fun o' prog w A E Q q => wpAny_pyIter_tuple (Heap.IsTuple.push pl _) q, rfl, fun h it e => ⟨_, e, rfl, rfl⟩, ?_⟩
    obtain ⟨o, e, _⟩ := id pl
    exact Heap.lt_size e
  | str z =>
    obtain ⟨t, rfl⟩ := (show ∃ t, u = Value.str z t from r)
    exact ⟨_, fun prog w A E Q q => wpAny_pyIter_strU q, fun o' prog w A E Q q => wpAny_pyIter_strU q, rfl, fun h it e => ⟨t, _, e, rfl, rfl⟩, trivial⟩
def iZipX (K : PySem.W.Frag) (ta : TA) : TI := fun σ H R => ta σ H fun vs H1 => ∃ s1 s2 xs ys, vs = [s1.v, s2.v] ∧ s1.vs K H1 xs ∧ s2.vs K H1 ys ∧ R (ItzX K s1 s2 xs ys) H1
theorem pi_zipX {X : Cx} {e e2 : Expr} {ta : TA} {p pos tpos : Pos} {elts : List Expr} {kk : Nat} (hg : Gl X "zip") (hm : X.mg "zip" = none) (ha : PA X [e, e2] ta)
    (hs : starEach [e, e2] X.env = (false, eval e X.env) :: starEach [e2] X.env := by rfl) (hpl : (backTo pos (starEach [e2] X.env)).any (·.1) = false := by rfl) :
    PI X (.Tuple elts kk tpos) (.Call (.Name "zip" p) [e, e2] [] pos) (iZipX X.K ta) := by
  refine ⟨fun pins s σ H R I h => ?_⟩
  refine Call_ (ld_blt I hg hm PyProof.Rows.boot_zip (PyProof.Rows.callWith_type1 (thn (ha.run pos pins s σ H _ I h) fun us s1 ⟨vs, H1, I1, r1, q1⟩ => ?_) hs hpl))
  obtain ⟨z1, z2, xs, ys, ex, hx, hy, q⟩ := q1
  subst ex
  cases r1 with
  | cons r rr =>
    cases rr with
    | cons r' rr =>
      cases rr
      obtain ⟨o1, l1, _, f1, it1, b1⟩ := lays_of I1 hx r
      obtain ⟨o2, _, l2, f2, it2, b2⟩ := lays_of I1 hy r'
      have fresh5 : ∀ c, c ∈ [s1.heap.objs.size + 4, s1.heap.objs.size + 2, s1.heap.objs.size + 3, s1.heap.objs.size, s1.heap.objs.size + 1] → FpOk X pins H1 c := fun c hcm => by
        have e' : c = s1.heap.objs.size + 4 ∨ c = s1.heap.objs.size + 2 ∨ c = s1.heap.objs.size + 3 ∨ c = s1.heap.objs.size ∨ c = s1.heap.objs.size + 1 := by simpa using hcm
        have hle : s1.heap.objs.size ≤ c := by
          rcases e' with z | z | z | z | z
          · rw [z]; exact Nat.le_add_right _ _
          · rw [z]; exact Nat.le_add_right _ _
          · rw [z]; exact Nat.le_add_right _ _
          · rw [z]; exact Nat.le_refl _
          · rw [z]; exact Nat.le_add_right _ _
        exact I1.fpOk hle (I1.hok.fresh hle)
      refine call_zipX l1 (l2 o1) f1 f2 fun h' hz hTI hTO h1 h2 hsz hk => wpAny_pyIter_zip hz ?_
      have I2 : Inv X pins σ H1 { s1 with heap := h' } := I1.kept (t' := s1.toks) hk
      exact ⟨s1.heap.objs.size + 4, _, _, _, H1, rfl, I2, turn_zipX s1.heap.objs.size b1 b2, ⟨hz, hTI, ⟨_, _, hTO⟩, it1 _ _ h1, it2 _ _ h2⟩, fresh5, q⟩
theorem zs_of {K : PySem.W.Frag} {G : Hp} {v : V} {d : D} {ds : List D} (r : Rep K G v d) (h : items d = .ok ds) : ∃ (src : ZS) (vs : List V), v = src.v ∧ (∀ H, Same G H → src.vs K H vs) ∧ Reps K G vs ds := by
  unfold items at h
  split at h
  · cases h
    obtain ⟨a, vs, rfl, hp, rr⟩ := r.lst'
    exact ⟨.lst a, vs, rfl, fun H s => .inl (.inl (s _ _ hp)), rr⟩
  · cases h
    obtain ⟨a, vs, rfl, hp, rr⟩ := r.tup'
    exact ⟨.tup a, vs, rfl, fun H s => same_sqT s hp, rr⟩
  · cases h
    cases r with
    | str z => exact ⟨.str z, _, rfl, fun H s => rfl, reps_text _⟩
  · cases h
theorem itok_zipX {K : PySem.W.Frag} {s1 s2 : ZS} {vs ws : List V} {ds es : List D} {G : Hp} (h1 : ∀ H, Same G H → s1.vs K H vs) (h2 : ∀ H, Same G H → s2.vs K H ws) (r : Reps K G vs ds) (r' : Reps K G ws es) : ItOk K (ItzX K s1 s2 vs ws) (zipD ds es) G := by
  refine ⟨fun H1 G1 q1 q2 i d h => ?_, fun H1 G1 q1 q2 i he => ?_⟩
  · obtain ⟨d1, d2, e1, e2, rfl⟩ := zipD_get h
    obtain ⟨v, hv, rv⟩ := r.get e1
    obtain ⟨w, hw, rw'⟩ := r'.get e2
    refine ⟨⟨h1 _ (q1.trans q2), h2 _ (q1.trans q2), (List.getElem?_eq_some_iff.mp hv).1, (List.getElem?_eq_some_iff.mp hw).1⟩, fun x H2 y => ?_⟩
    obtain ⟨T, x1, x2, ob, rfl, nT, od, rfl, f1, f2⟩ := y
    rw [hv] at f1; cases f1
    rw [hw] at f2; cases f2
    have gT : G1 T = none := same_none q2 nT
    exact ⟨_, Ext.new q2 nT, .tupI upd_same od ((Reps.cons (rv.same q1) (.cons (rw'.same q1) .nil)).same (same_updN gT))⟩
  · rw [zipD_len, ← r.1, ← r'.1] at he
    exact ⟨h1 _ (q1.trans q2), h2 _ (q1.trans q2), by omega, by omega, by omega⟩
section
variable {X : Cx} {ea : EA} {W : WX} {a b : Expr} {p pos : Pos} {f g : EX}
theorem i_zip {elts : List Expr} {kk : Nat} {tpos : Pos} (hm : X.mg "zip" = none) (ha : EG X ea W a f) (hb : EG X ea W b g) (h : glB X "zip" = true := by kernel_rfl)
    (hs : starEach [a, b] X.env = (false, eval a X.env) :: starEach [b] X.env := by rfl) (hs2 : starEach [b] X.env = (false, eval b X.env) :: starEach [] X.env := by rfl) (hpl : (backTo pos (starEach [b] X.env)).any (·.1) = false := by rfl) : SI X ea W (.Tuple elts kk tpos) (.Call (.Name "zip" p) [a, b] [] pos) (srcZip f g) :=
  PI.imp (pi_zipX (glB_of h).gl hm (pa_cons ha (pa_cons hb pa_nil hs2) hs) hs hpl) fun σ H R ⟨ρ, G, ok, q⟩ => by
    unfold srcZip at q
    refine ⟨ρ, G, ok, ?_⟩
    cases r : f ρ with
    | bad => rw [r] at q; exact q
    | rs c => rw [r] at q; exact q
    | ok d =>
      rw [r] at q
      intro v H1 G1 x1 m1
      refine ⟨ρ, G1, ok.ext x1, ?_⟩
      simp only [ok_bind] at q
      cases r2 : g ρ with
      | bad => rw [r2] at q; exact q
      | rs c => rw [r2] at q; exact fun H2 G2 x2 => q H2 G2 (x1.trans x2)
      | ok d2 =>
        rw [r2] at q
        intro v2 H2 G2 x2 m2
        simp only [ok_bind] at q
        cases e1 : items d with
        | bad => rw [e1] at q; exact q.elim
        | rs c => exact absurd e1 (by unfold items; split <;> exact fun z => by cases z)
        | ok ds =>
          cases e2 : items d2 with
          | bad => rw [e1, e2] at q; exact q.elim
          | rs c => exact absurd e2 (by unfold items; split <;> exact fun z => by cases z)
          | ok es =>
            rw [e1, e2] at q
            obtain ⟨s1, vs, rfl, h1, r1⟩ := zs_of (Rep.same x2.gg m1) e1
            obtain ⟨s2, ws, rfl, h2, r2⟩ := zs_of m2 e2
            exact ⟨s1, s2, vs, ws, rfl, h1 _ x2.gh, h2 _ x2.gh, q _ H2 G2 (x1.trans x2) (itok_zipX h1 h2 r1 r2)⟩
end
end SR

set_option linter.all false
set_option autoImplicit false
set_option Elab.async false
set_option maxRecDepth 100000
set_option maxHeartbeats 2000000
/-! SRp: dict(enumerate(a text)), d.get(k, x), dict(d). -/
namespace SR
open PySem PySem.Spec PyProof.Rows L2 TL RZ
open PySem.Sem (wp)
section
variable {prog : Program} {w : World} {A : Around} {E : Value → Shared → Prop} {s : Shared}
/-- next of an enumerate whose tuple T is still out, by what it draws from -/
theorem enumOut_item {e it T : Addr} {fp : List Addr} {n i : Nat} {P : Nat → Value → Prop} {St : Nat → Heap → Prop} {x old : Value} {f : Bool} {oT : Obj} {Q : Value → Shared → Prop}
    (D : Draws prog w A it fp n P St) (he : IsEnumHeld s.heap e it i old T f) (hT : s.heap.get? T = some oT) (hTe : T ≠ e) (hTi : T ≠ it) (hst : St i s.heap) (hlt : i < n) (hne : e ≠ it) (hef : e ∉ fp)
    (hQ : ∀ v h' tk, P i v → IsEnumHeld h' e it ((i : Int) + 1) old T true → St (i + 1) h' → h'.get? s.heap.objs.size = some { cls := .type "tuple", data := .seq #[.int i tk, v] } →
      (∀ b o, b ≠ e → b ≠ it → s.heap.get? b = some o → h'.get? b = some o) → Q (.ref s.heap.objs.size) { s with heap := h', toks := tk + 1 }) :
    wpAny (model prog w) A (Builtin.«enumerate.__next__» ⟨[.ref e], []⟩) (fun fin s' => ∃ v, fin = .done (.ret v) ∧ Q v s') E s := by
  obtain ⟨hp, g, d, tk₀, os⟩ := s
  (show wpAny _ _ (field (.ref e) 2 >>= _) _ _ _); refine wpAny_bind (wpAny_field he rfl (x := .ref it) rfl ?_)
  refine wpAny_bind (D.item i _ _ _ hlt hst fun v h1 tk hP st1 b1 => ?_)
  have b1 : Heap.SameBut it hp h1 := b1
  have e1 : IsEnumHeld h1 e it i old T f := (b1.2 e hne).trans he
  (show wpAny _ _ (field (.ref e) 3 >>= _) _ _ ⟨h1, g, d, tk, os⟩); refine wpAny_bind (wpAny_field e1 rfl (x := rawInt i) rfl ?_)
  (show wpAny _ _ (field (.ref e) 4 >>= _) _ _ ⟨h1, g, d, tk, os⟩); refine wpAny_bind (wpAny_field e1 rfl (x := .none) rfl ?_)
  (show wpAny _ _ (mkInt i >>= _) _ _ ⟨h1, g, d, tk, os⟩); refine wpAny_bind (wpAny_mkInt ?_)
  (show wpAny _ _ (setField (.ref e) 3 (rawInt ((i : Int) + 1)) >>= _) _ _ ⟨h1, g, d, tk + 1, os⟩); refine wpAny_bind (wpAny_setField_rec e1 (by simp) fun h2 e2 b2 => ?_)
  have b2 : Heap.SameBut e h1 h2 := b2
  have e2 : IsEnumHeld h2 e it ((i : Int) + 1) old T f := e2
  (show wpAny _ _ (setField (.ref e) 4 .none >>= _) _ _ ⟨h2, g, d, tk + 1, os⟩); refine wpAny_bind (wpAny_setField_rec e2 (by simp) fun h3 e3 b3 => ?_)
  have b3 : Heap.SameBut e h2 h3 := b3
  have e3 : IsEnumHeld h3 e it ((i : Int) + 1) old T f := e3
  (show wpAny _ _ (newTuple [.int i tk, v] >>= _) _ _ ⟨h3, g, d, tk + 1, os⟩); refine wpAny_bind (wpAny_newTuple ?_)
  have z3 : h3.objs.size = hp.objs.size := by rw [b3.1, b2.1, b1.1]
  have le : e < hp.objs.size := Heap.lt_size he
  have k3 : ∀ b o, b ≠ e → b ≠ it → hp.get? b = some o → h3.get? b = some o := fun b o n1 n2 q => b3.extBut b o n1 (b2.extBut b o n1 (b1.extBut b o n2 q))
  obtain ⟨h4, eh4⟩ : ∃ h4, h4 = h3.push { cls := .type "tuple", data := .seq #[.int i tk, v] } := ⟨_, rfl⟩
  have e4 : IsEnumHeld h4 e it ((i : Int) + 1) old T f := by rw [eh4]; exact Heap.get?_push_of_some _ e3
  have t4 : h4.get? hp.objs.size = some { cls := .type "tuple", data := .seq #[.int i tk, v] } := by rw [eh4, ← z3]; exact Heap.get?_push_size _ rfl
  have k4 : ∀ b o, b ≠ e → b ≠ it → hp.get? b = some o → h4.get? b = some o := fun b o n1 n2 q => by rw [eh4]; exact Heap.get?_push_of_some _ (k3 b o n1 n2 q)
  have s4 : St (i + 1) h4 := D.frame _ _ _ st1 fun b hb o q => by
    have n1 : b ≠ e := fun z => hef (z ▸ hb)
    rw [eh4]; exact Heap.get?_push_of_some _ (b3.extBut b o n1 (b2.extBut b o n1 q))
  rw [← eh4, z3]
  show wpAny _ _ (Builtin.SmallTypes.ownedTupleIsFree (.ref e) >>= _) _ _ ⟨h4, g, d, tk + 1, os⟩
  clear eh4
  refine wpAny_bind (wpAny_tupleHeld_enum (s := ⟨h4, g, d, tk + 1, os⟩) e4 (k4 T oT hTe hTi hT) fun h5 e5 b5 => ?_)
  have b5 : Heap.SameBut e h4 h5 := b5
  simp only [if_false, Bool.false_eq_true]
  exact wpAny_pure ⟨_, rfl, hQ v h5 tk hP e5 (D.frame _ _ _ s4 fun b hb o q => b5.extBut b o (fun z => hef (z ▸ hb)) q) (b5.extBut _ _ (Nat.ne_of_gt le) t4) fun b o n1 n2 q => b5.extBut b o n1 (k4 b o n1 n2 q)⟩
theorem enumOut_next {e it T : Addr} {fp : List Addr} {n i : Nat} {P : Nat → Value → Prop} {St : Nat → Heap → Prop} {old : Value} {f : Bool} {oT : Obj} {Q : Option Value → Shared → Prop}
    (D : Draws prog w A.in1 it fp n P St) (he : IsEnumHeld s.heap e it i old T f) (hT : s.heap.get? T = some oT) (hTe : T ≠ e) (hTi : T ≠ it) (hst : St i s.heap) (hlt : i < n) (hne : e ≠ it) (hef : e ∉ fp)
    (hQ : ∀ v h' tk, P i v → IsEnumHeld h' e it ((i : Int) + 1) old T true → St (i + 1) h' → h'.get? s.heap.objs.size = some { cls := .type "tuple", data := .seq #[.int i tk, v] } →
      (∀ b o, b ≠ e → b ≠ it → s.heap.get? b = some o → h'.get? b = some o) → Q (some (.ref s.heap.objs.size)) { s with heap := h', toks := tk + 1 }) :
    wpAny (model prog w) A (pyNext (.ref e)) Q E s := by
  have ty : s.TypeIs (.ref e) "enumerate" := ⟨_, he, rfl⟩
  unfold pyNext
  refine wpAny_bind (wpAny_attempt (wpAny_callSpecial?_slot (name := Str.ofString "__next__") ty F.slot_enumerate_next (wpAny_call_entry F.slot_enumerate_next ty F.entry_enumerate_next ?_ (F.args_enumerate_next_1 _))))
  exact enumOut_item (x := .none) D he hT hTe hTi hst hlt hne hef fun v h' tk a b c d k => wpAny_pure (hQ v h' tk a b c d k)
theorem enumOut_end {e it T : Addr} {fp : List Addr} {n : Nat} {P : Nat → Value → Prop} {St : Nat → Heap → Prop} {i : Int} {old : Value} {f : Bool} {Q : Option Value → Shared → Prop}
    (D : Draws prog w A.in1 it fp n P St) (he : IsEnumHeld s.heap e it i old T f) (hst : St n s.heap) (hQ : ∀ h', Heap.ExtBut it s.heap h' → Q none { s with heap := h' }) : wpAny (model prog w) A (pyNext (.ref e)) Q E s := by
  have ty : s.TypeIs (.ref e) "enumerate" := ⟨_, he, rfl⟩
  unfold pyNext
  refine wpAny_bind (wpAny_attempt (wpAny_callSpecial?_slot (name := Str.ofString "__next__") ty F.slot_enumerate_next (wpAny_call_entry F.slot_enumerate_next ty F.entry_enumerate_next ?_ (F.args_enumerate_next_1 _))))
  (show wpAny _ _ (field (.ref e) 2 >>= _) _ _ _); refine wpAny_bind (wpAny_field he rfl (x := .ref it) rfl ?_)
  refine wpAny_bind (D.done _ _ _ hst fun h' x k ⟨o, ho, hc⟩ => ?_)
  refine wpAny_bind (wpAny_isInstance (T := "StopIteration") (b := true) ⟨o, ho, hc⟩ isSubtype_stop (wpAny_pure (hQ _ k)))
end
/-- an enumerate over what D draws from -/
theorem enumArg {prog : Program} {w : World} (e it : Addr) (hei : e ≠ it) (n : Nat) (P : Nat → Value → Prop) (St : Nat → Heap → Prop) (D : ∀ A : Around, A.handled = none → Draws prog w A it [it] n P St) :
    PairArg prog w "enumerate" e [e, it] [e, it] n (fun i k v => (∃ t, k = .int i t) ∧ P i v) (fun h => (∃ old, IsEnum h e it 0 old) ∧ St 0 h ∧ ∃ o, h.get? it = some o) where
  type := fun s ok => by
    obtain ⟨⟨_, he⟩, _⟩ := ok
    exact ⟨_, he, rfl⟩
  notDict := by decide
  keep := fun h h' ok hk => by
    obtain ⟨⟨old, he⟩, hs, o, ho⟩ := ok
    have D0 := D ({} : Around) rfl
    exact ⟨⟨old, hk _ _ he⟩, D0.frame _ _ _ hs fun b hb o q => hk b o q, o, hk _ _ ho⟩
  there := fun h ok b hb => by
    obtain ⟨⟨old, he⟩, _, o, ho⟩ := ok
    rcases List.mem_cons.mp hb with rfl | hb
    · exact ⟨_, he⟩
    · rw [List.mem_singleton.mp hb]; exact ⟨o, ho⟩
  sub := fun b hb => hb
  noKeys := fun A s Q E hA ok h => by
    obtain ⟨⟨_, he⟩, _⟩ := ok
    exact getAttrOr_miss_enumerate he rfl rfl rfl enumerate_no_keys (by decide +kernel) hA h
  iter := fun A s d Q E hA ok hd hdf h => by
    obtain ⟨⟨old, he⟩, hs, o0, ho0⟩ := ok
    have de : d ≠ e := fun z => hdf (by rw [z]; exact List.mem_cons_self)
    have di : d ≠ it := fun z => hdf (by rw [z]; exact List.mem_cons_of_mem _ List.mem_cons_self)
    have hef : e ∉ [it] := fun z => hei (List.mem_singleton.mp z)
    have D1 := D A.in1 hA
    refine wpAny_pyIter_enum he (h e [e, it] (fun i h => St i h ∧ (∃ o, h.get? it = some o) ∧ ((∃ old, IsEnum h e it i old) ∨ ∃ old T f oT, IsEnumHeld h e it i old T f ∧ h.get? T = some oT ∧ T ≠ e ∧ T ≠ it ∧ T ≠ d)) s.heap s.toks ?_ ⟨hs, ⟨o0, ho0⟩, .inl ⟨old, he⟩⟩ (fun _ _ q => q) fun b hb => .inl hb)
    refine ⟨fun hm => ?_, fun i h1 h2 st hk => ?_, fun i s1 Q1 E1 hi st hds hQ => ?_, fun s1 Q1 E1 st hQ => ?_⟩
    · rcases List.mem_cons.mp hm with z | z
      · exact de z
      · exact di (List.mem_singleton.mp z)
    · obtain ⟨st, ⟨o, ho⟩, he⟩ := st
      refine ⟨D1.frame _ _ _ st fun b hb o q => hk b o (by rw [List.mem_singleton.mp hb]; exact Ne.symm di) q, ⟨o, hk _ _ (Ne.symm di) ho⟩, ?_⟩
      rcases he with ⟨old, he⟩ | ⟨old, T, f, oT, he, hT, r1, r2, r3⟩
      · exact .inl ⟨old, hk _ _ (Ne.symm de) he⟩
      · exact .inr ⟨old, T, f, oT, hk _ _ (Ne.symm de) he, hk _ _ r3 hT, r1, r2, r3⟩
    · obtain ⟨st, ⟨o, ho⟩, he⟩ := st
      have cast : ((i + 1 : Nat) : Int) = (i : Int) + 1 := by omega
      have nit : s1.heap.objs.size ≠ it := Nat.ne_of_gt (Heap.lt_size ho)
      rcases he with ⟨old, he⟩ | ⟨old, T, f, oT, he, hT, r1, r2, r3⟩
      · have nee : s1.heap.objs.size ≠ e := Nat.ne_of_gt (Heap.lt_size he)
        refine wpAny_pyNext_enum_itemD D1 he st hi hei hef fun x h' tk hP ho' st' hT hsz hk => ?_
        obtain ⟨o', ho2⟩ := D1.live _ _ st'
        exact hQ s1.heap.objs.size _ _ h' (tk + 1) ⟨⟨_, rfl⟩, hP⟩ (.inl ⟨_, hT, rfl, _, rfl⟩) ⟨st', ⟨o', ho2⟩, .inr ⟨_, s1.heap.objs.size, false, _, (by rw [cast]; exact ho'), hT, nee, nit, Nat.ne_of_gt hds⟩⟩
          fun b o hb q => hk b o (fun z => hb (by rw [z]; exact List.mem_cons_self)) (fun z => hb (by rw [z]; exact List.mem_cons_of_mem _ List.mem_cons_self)) q
      · refine enumOut_next D1 he hT r1 r2 st hi hei hef fun v h' tk hP he' st' hT' hk => ?_
        obtain ⟨o', ho2⟩ := D1.live _ _ st'
        exact hQ s1.heap.objs.size _ _ h' (tk + 1) ⟨⟨_, rfl⟩, hP⟩ (.inl ⟨_, hT', rfl, _, rfl⟩) ⟨st', ⟨o', ho2⟩, .inr ⟨old, T, true, oT, (by rw [cast]; exact he'), hk _ _ r1 r2 hT, r1, r2, r3⟩⟩
          fun b o hb q => hk b o (fun z => hb (by rw [z]; exact List.mem_cons_self)) (fun z => hb (by rw [z]; exact List.mem_cons_of_mem _ List.mem_cons_self)) q
    · obtain ⟨st, _, he⟩ := st
      rcases he with ⟨old, he⟩ | ⟨old, T, f, oT, he, hT, r1, r2, r3⟩
      · exact wpAny_pyNext_enum_endD D1 he st fun h' hk => hQ h' s1.toks fun b o hb q => hk b o (fun z => hb (by rw [z]; exact List.mem_cons_of_mem _ List.mem_cons_self)) q
      · exact enumOut_end D1 he st fun h' hk => hQ h' s1.toks fun b o hb q => hk b o (fun z => hb (by rw [z]; exact List.mem_cons_of_mem _ List.mem_cons_self)) q
/-- the entries of dict(enumerate(z)) -/
def enK (z : Str) : List (Key × V) := (tl z).zipIdx.map fun p => (Sum.inl (p.2 : Int), V.str ⟨#[p.1]⟩)
theorem enK_len (z : Str) : (enK z).length = (tl z).length := by unfold enK; rw [List.length_map, List.length_zipIdx]
theorem enK_get {z : Str} {i : Nat} {c : Nat} (h : z.cps[i]? = some c) : (enK z)[i]? = some (Sum.inl (i : Int), V.str ⟨#[c]⟩) := by
  have : (tl z)[i]? = some c := by show z.cps.toList[i]? = _; rw [Array.getElem?_toList]; exact h
  unfold enK
  rw [List.getElem?_map, List.getElem?_zipIdx, this]
  simp
theorem paired_app {α β : Type} {R : α → β → Prop} {a c : List α} {b d : List β} (h : Paired R a b) (k : Paired R c d) : Paired R (a ++ c) (b ++ d) := by
  induction h with
  | nil => exact k
  | cons h _ ih => exact .cons h ih
section
variable {prog : Program} {w : World} {A : Around} {E : Value → Shared → Prop} {s : Shared}
theorem call_dictEnum {e it : Addr} {z : Str} {Q : Value → Shared → Prop} (hh : A.handled = none) (hei : e ≠ it) (P : Nat → Value → Prop) (St : Nat → Heap → Prop) (D : ∀ A : Around, A.handled = none → Draws prog w A it [it] (tl z).length P St)
    (hP : ∀ i v, P i v → ∃ c u, z.cps[i]? = some c ∧ v = .str ⟨#[c]⟩ u) (ok : (∃ old, IsEnum s.heap e it 0 old) ∧ St 0 s.heap ∧ ∃ o, s.heap.get? it = some o) (hz : (tl z).length ≤ sizeLine)
    (h : ∀ h' tk prs, KV (enK z) prs → h'.DictOf (mixKind prog w) s.heap.objs.size (merged [] prs) → (∀ b o, b ≠ e → b ≠ it → s.heap.get? b = some o → h'.get? b = some o) → Q (.ref s.heap.objs.size) { s with heap := h', toks := tk }) :
    wpAny (model prog w) A (call (.type "dict") [.ref e]) Q E s := by
  refine call_dict_arg (enumArg e it hei _ P St D) ok fun s1 hs1 hdf ok1 => ?_
  subst hs1
  refine updateFrom_arg (A := A.in1) (Tab := fun i h => ∃ prs : List (Key × Value), KV ((enK z).take i) prs ∧ h.DictOf (mixKind prog w) s.heap.objs.size (merged [] prs)) (enumArg e it hei _ P St D) .none hh ok1 hdf ⟨[], .nil, Heap.DictOf.new s.heap⟩
    (fun i h ⟨_, _, tb⟩ => tb.lt_size) (fun i h h' wr' hd _ ⟨prs, r, tb⟩ hk => ⟨prs, r, tb.at' fun o q => hk _ o hd q⟩) ?_ ?_
  · intro i key v s' Q' E' hi hrel ⟨prs, r, tb⟩ _ hQ
    obtain ⟨⟨t, rfl⟩, hv⟩ := hrel
    obtain ⟨c, u, hc, rfl⟩ := hP i v hv
    have hl := r.length
    rw [List.length_take, enK_len] at hl
    have hml := merged_length [] prs
    refine wpAny_dictSet_pairs (knd := mixKind prog w) (k := Sum.inl (i : Int)) (hsz := by simp at hml; omega) (mixKind_int prog w (i : Int) t) tb fun h' hm' hs => ?_
    refine hQ h' _ ⟨prs ++ [(Sum.inl (i : Int), .str ⟨#[c]⟩ u)], ?_, ?_⟩ hs
    · rw [List.take_add_one, enK_get hc]
      exact paired_app r (.cons ⟨rfl, ⟨u, rfl⟩⟩ .nil)
    · have : merged ([] : List (Key × Value)) (prs ++ [(Sum.inl (i : Int), .str ⟨#[c]⟩ u)]) = stored (merged [] prs) (Sum.inl (i : Int)) (.str ⟨#[c]⟩ u) := by
        unfold merged
        rw [List.foldl_append]
        rfl
      rw [this]; exact hm'
  · intro h' tk ⟨prs, r, tb⟩ hk
    rw [List.take_of_length_le (by rw [enK_len]; exact Nat.le_refl _)] at r
    exact ⟨rfl, h h' tk prs r tb fun b o n1 n2 q => hk b o (Nat.ne_of_lt (Heap.lt_size q)) (fun hm => by
      rcases List.mem_cons.mp hm with z | z
      · exact n1 z
      · exact n2 (List.mem_singleton.mp z)) (Heap.get?_push_of_some _ q)⟩
end
def tDEnum (t : TE) : TE := fun σ H Q => t σ H fun x H1 => ∃ z, x = .str z ∧ (tl z).length ≤ sizeLine ∧ ∀ p, H1 p = none → Q (.ref p) (upd H1 p (.dK (mergeK [] (enK z))))
theorem boot_dict : bootBuiltins "dict" = some (.type "dict") := by boot_by_name
theorem pe_dictEnum {X : Cx} {e : Expr} {te : TE} {p p2 pos pos2 : Pos} (hcalm : X.calm = true) (hg : Gl X "dict") (hm : X.mg "dict" = none) (hg2 : Gl X "enumerate") (hm2 : X.mg "enumerate" = none) (ha : PE X e te) (hs : starEach [e] X.env = (false, eval e X.env) :: starEach [] X.env := by rfl)
    (hs2 : starEach [.Call (.Name "enumerate" p2) [e] [] pos2] X.env = (false, eval (.Call (.Name "enumerate" p2) [e] [] pos2) X.env) :: starEach [] X.env := by rfl) (hpl : (backTo pos2 (starEach [] X.env)).any (·.1) = false := by rfl) (hpl2 : (backTo pos (starEach [] X.env)).any (·.1) = false := by rfl) :
    PE X (.Call (.Name "dict" p) [.Call (.Name "enumerate" p2) [e] [] pos2] [] pos) (tDEnum te) := by
  refine ⟨fun pins s σ H Q I h => ?_⟩
  refine wpAny_Call_Name_kw (ld_blt I hg hm boot_dict (PyProof.Rows.callWith_type1 ?_ hs2 hpl2))
  rw [hs2]
  show wpAny _ _ (spliced ((false, eval _ X.env) :: backTo pos (starEach [] X.env))) _ _ s
  refine Calls.spliced_cons ?_
  refine wpAny_Call_Name_kw (ld_blt I hg2 hm2 boot_enumerate (PyProof.Rows.callWith_type1 ?_ hs hpl))
  rw [hs]
  show wpAny _ _ (spliced ((false, eval e X.env) :: backTo pos2 (starEach [] X.env))) _ _ s
  refine Calls.spliced_cons (thn (ha.run pins s σ H _ I h) fun u s1 ⟨x, H1, I1, rx, z, ex, hz, q⟩ => Calls.spliced_nil ?_)
  subst ex
  obtain ⟨t, rfl⟩ := rx
  refine call_enumerate_str fun h' he hit hsz hk => Calls.spliced_nil ?_
  have hI2 : Inv X pins σ H1 { s1 with heap := h' } := I1.kept (t' := s1.toks) hk
  have hh := I1.ok.hd hcalm
  obtain ⟨P, St, D, hst, hP, hob⟩ : ∃ (P : Nat → Value → Prop) (St : Nat → Heap → Prop), (∀ A : Around, A.handled = none → Draws X.prog X.w A s1.heap.objs.size [s1.heap.objs.size] (tl z).length P St) ∧ St 0 h' ∧ (∀ i v, P i v → ∃ c u, z.cps[i]? = some c ∧ v = .str ⟨#[c]⟩ u) ∧ ∃ o, h'.get? s1.heap.objs.size = some o := by
    have hl : (tl z).length = z.cps.size := by rw [← len_tl]; rfl
    have hob : ∃ o, h'.get? s1.heap.objs.size = some o := by obtain ⟨o, ho, _⟩ := hit; exact ⟨o, ho⟩
    unfold strIterType at hit
    rw [hl]
    by_cases ha : z.cps.all (· < 128) = true
    · rw [if_pos ha] at hit
      exact ⟨_, _, fun A hA => Draws.strAscii hA _ z t, hit, fun i v hv => hv, hob⟩
    · rw [if_neg ha] at hit
      exact ⟨_, _, fun A hA => Draws.strWide hA _ z t, hit, fun i v hv => hv, hob⟩
  refine call_dictEnum (z := z) hh (Nat.succ_ne_self _) P St D hP ⟨⟨.none, he⟩, hst, hob⟩ hz fun h2 tk prs rel hd hk2 => ?_
  have kept : ∀ b o, s1.heap.get? b = some o → h2.get? b = some o := fun b o q => by
    have hlt := Heap.lt_size q
    exact hk2 b o (Nat.ne_of_lt (Nat.lt_succ_of_lt hlt)) (Nat.ne_of_lt hlt) (hk b o q)
  have hsz' : h'.objs.size = s1.heap.objs.size + 2 := hsz
  have hle : s1.heap.objs.size ≤ h'.objs.size := by omega
  have low : (h'.objs.size == sysModules) = false := beq_eq_false_iff_ne.mpr (Nat.ne_of_gt (Nat.lt_of_lt_of_le I1.big hle))
  have hlen : (mergeK [] (enK z)).length ≤ sizeLine := by
    have := length_mergeK (enK z) []
    rw [enK_len, List.length_nil, Nat.zero_add] at this
    exact Nat.le_trans this hz
  exact ⟨.ref h'.objs.size, _, I1.laid (a := h'.objs.size) (o := .dK (mergeK [] (enK z))) (t' := tk) kept hle ⟨hlen, low, merged [] prs, KV.merge rel .nil, hd⟩, rfl, q _ (I1.hok.fresh hle)⟩
end SR

set_option linter.all false
set_option autoImplicit false
/-! SRz: more of what operations do on plain data. -/
namespace SR
/-- dict(enumerate(x)), x a text -/
def dEnum : D → Res D
  | .str x => if x.length ≤ 1000 then .ok (.dct false (x.zipIdx.map fun p => (.int p.2, .str [p.1]))) else .bad
  | _ => .bad
/-- dict(d), keys numbers or texts -/
@[simp] def dCopy : D → Res D
  | .dct false kvs => .ok (.dct false kvs)
  | _ => .bad
/-- max(a, b), min(a, b) of numbers -/
@[simp] def dMax2 : D → D → Res D
  | .int i, .int j => .ok (.int (if j > i then j else i))
  | _, _ => .bad
@[simp] def dMin2 : D → D → Res D
  | .int i, .int j => .ok (.int (if j < i then j else i))
  | _, _ => .bad
/-- x += e of numbers -/
@[simp] def dAddI : D → D → Res D
  | .int i, .int j => .ok (.int (i + j))
  | _, _ => .bad
/-- list(range(n)), tuple(range(n)) -/
@[simp] def dRgL : D → Res D
  | .int j => if small62 j && decide (j ≤ 1000) then .ok (.lst (rng 0 j)) else .bad
  | _ => .bad
@[simp] def dRgT : D → Res D
  | .int j => if small62 j && decide (j ≤ 1000) then .ok (.tup (rng 0 j)) else .bad
  | _ => .bad
/-! order of numbers, texts, tuples -/
mutual
def D.ltv : D → D → Bool
  | .int i, .int j => decide (i < j)
  | .str x, .str y => decide (x < y)
  | .tup xs, .tup ys => D.ltvs xs ys
  | _, _ => false
def D.ltvs : List D → List D → Bool
  | [], [] => false
  | [], _ :: _ => true
  | _ :: _, [] => false
  | x :: xs, y :: ys => if D.eq x y then D.ltvs xs ys else D.ltv x y
end
mutual
/-- the two can be compared, place by place -/
def D.alk : D → D → Bool
  | .int _, .int _ => true
  | .str _, .str _ => true
  | .tup xs, .tup ys => D.alks xs ys
  | _, _ => false
def D.alks : List D → List D → Bool
  | x :: xs, y :: ys => D.alk x y && D.alks xs ys
  | _, _ => true
end
def D.leV (a b : D) : Bool := !D.ltv b a
def D.neT : D → Bool
  | .tup xs => !xs.isEmpty
  | _ => false
def D.noT : D → Bool
  | .int _ => true
  | .str _ => true
  | _ => false
/-- what can be sorted -/
def sortOk (xs : List D) : Bool := (xs.all fun x => x.lay && decide (x.dep ≤ 8)) && (xs.all fun a => xs.all fun b => D.alk a b) && (xs.all D.neT || xs.all D.noT) && decide (xs.length ≤ 100000)
/-- sorted(x) -/
def dSort : D → Res D
  | .lst xs => if sortOk xs then .ok (.lst (xs.mergeSort D.leV)) else .bad
  | .dct false kvs => if sortOk (kvs.map fun p => p.1) then .ok (.lst ((kvs.map fun p => p.1).mergeSort D.leV)) else .bad
  | _ => .bad
/-- x.index(y) -/
def dLIx : D → D → Res D
  | .lst xs, y => if (D.lst xs).good && y.good then (match xs.findIdx? (fun x => D.eq x y) with | some j => .ok (.int (j : Nat)) | none => .bad) else .bad
  | _, _ => .bad
end SR

set_option linter.all false
set_option autoImplicit false
set_option Elab.async false
set_option maxRecDepth 100000
set_option maxHeartbeats 2000000
/-! SRq: d.get(k, x), dict(enumerate(x)), dict(d). -/
namespace SR
open PySem PySem.Spec PyProof.Rows L2 TL RZ
theorem dct_isD {K : PySem.W.Frag} {H G : Hp} {v : V} {d : D} (s : Same G H) (r : RepB K H G v d) (h : isDct d = true) : ∃ a, v = .ref a ∧ IsD H a := by
  cases d with
  | dct t kvs =>
    cases t with
    | true => obtain ⟨a, k, e, hr, _⟩ := RepB.dctT s r; exact ⟨a, e, .inr ⟨k, hr⟩⟩
    | false => obtain ⟨a, k, e, hr, _⟩ := RepB.dctK s r; exact ⟨a, e, .inl ⟨k, hr⟩⟩
  | _ => cases h
section
variable {X : Cx} {ea : EA} {W : WX} {a b o c : Expr} {p p2 pos pos2 apos cpos : Pos} {f g k : EX}
/-- d.get(k, x) -/
theorem m_get2 (hu : X.A.units + 1 < cLine) (ho : EB X ea W o f) (hb : EB X ea W b g) (hc : EG X ea W c k) (m : M2 X o "get" apos b c cpos := by exact ⟨rfl, rfl, rfl, rfl⟩) : EG X ea W (.Call (.Attribute o "get" apos) [b, c] [] cpos) (meth2 isDct dGet f g k) := by
  refine PE.imp (pe_dget2 hu ho hb hc m) fun σ H Q ⟨ρ, G, ok, q⟩ => ?_
  refine ⟨ρ, G, ok, q.bind fun d v H1 G1 x1 m1 q1 => ?_⟩
  have q1 := q1.extG x1
  split at q1
  · rename_i hd
    obtain ⟨a0, rfl, hI⟩ := dct_isD x1.gh m1 hd
    refine ⟨a0, rfl, hI, ρ, G1, ok.ext x1, q1.bind fun e u H2 G2 x2 m2 q2 => ⟨ρ, G2, (ok.ext x1).ext x2, (q2.extG x2).bind fun z w H3 G3 x3 m3 q3 => ?_⟩⟩
    have q4 := q3.extG x3
    cases d with
    | dct t kvs =>
      unfold dGet at q4
      simp only at q4
      split at q4
      · rename_i hf
        obtain ⟨a1, e1, _, hh⟩ := dget_of x3.gh hf ((RepB.ext x2 m1).ext x3) (RepB.ext x3 m2)
        cases e1
        rcases hh with ⟨h1, h2⟩ | ⟨v1, d1, h1, h2, rv⟩
        · rw [h2] at q4
          exact ⟨none, h1, q4 w H3 G3 (.refl x3.gh) m3⟩
        · rw [h2] at q4
          exact ⟨some v1, h1, q4 v1 H3 G3 (.refl x3.gh) rv⟩
      · exact q4.elim
    | _ => cases hd
  · exact q1.elim
/-! dict(enumerate(x)) -/
theorem merge_new : ∀ (more kvs : List (Key × V)), (∀ p ∈ more, ∀ q ∈ kvs, q.1 ≠ p.1) → more.Pairwise (fun p q => p.1 ≠ q.1) → mergeK kvs more = kvs ++ more
  | [], kvs, _, _ => (List.append_nil kvs).symm
  | p :: more, kvs, h, hp => by
    obtain ⟨h1, h2⟩ := List.pairwise_cons.mp hp
    have e : putK kvs p.1 p.2 = kvs ++ [p] := by
      unfold putK
      rw [if_neg]
      rw [List.any_eq_true]
      rintro ⟨q, hq, hd⟩
      exact h p List.mem_cons_self q hq (of_decide_eq_true hd)
    show mergeK (putK kvs p.1 p.2) more = _
    rw [e, merge_new more (kvs ++ [p]) (fun x hx q hq => ?_) h2, List.append_assoc]
    · rfl
    · rcases List.mem_append.mp hq with hq | hq
      · exact h x (List.mem_cons_of_mem _ hx) q hq
      · rw [List.mem_singleton.mp hq]; exact h1 x hx
theorem enK_merge (z : Str) : mergeK [] (enK z) = enK z := by
  rw [merge_new (enK z) [] (fun _ _ _ hq => nomatch hq) ?_]
  · rfl
  · unfold enK
    rw [List.pairwise_map, List.pairwise_iff_getElem]
    intro i j hi hj hij
    rw [List.getElem_zipIdx, List.getElem_zipIdx]
    intro e
    have := Sum.inl.inj e
    simp only at this
    omega
theorem enK_rep {K : PySem.W.Frag} {G : Hp} (z : Str) : RepK K G (enK z) ((tl z).zipIdx.map fun p => (D.int p.2, D.str [p.1])) := by
  refine ⟨by unfold enK; simp, fun i p q e1 e2 => ?_⟩
  unfold enK at e1
  rw [List.getElem?_map] at e1 e2
  obtain ⟨x, hx, rfl⟩ := Option.map_eq_some_iff.mp e1
  obtain ⟨y, hy, rfl⟩ := Option.map_eq_some_iff.mp e2
  rw [hx] at hy
  cases hy
  exact ⟨rfl, .str ⟨#[x.1]⟩⟩
theorem b_denum (hc : X.calm = true) (hm : X.mg "dict" = none) (hm2 : X.mg "enumerate" = none) (ha : EB X ea W a f) (h : glB X "dict" = true := by kernel_rfl) (h2 : glB X "enumerate" = true := by kernel_rfl)
    (hs : starEach [a] X.env = (false, eval a X.env) :: starEach [] X.env := by rfl) (hs2 : starEach [.Call (.Name "enumerate" p2) [a] [] pos2] X.env = (false, eval (.Call (.Name "enumerate" p2) [a] [] pos2) X.env) :: starEach [] X.env := by rfl) :
    EF X ea W (.Call (.Name "dict" p) [.Call (.Name "enumerate" p2) [a] [] pos2] [] pos) (un dEnum f) := by
  refine PE.imp (pe_dictEnum hc (glB_of h).gl hm (glB_of h2).gl hm2 ha hs hs2 rfl rfl) fun σ H Q ⟨ρ, G, ok, q⟩ => ?_
  refine ⟨ρ, G, ok, q.bind fun d v H1 G1 x1 m1 q1 => ?_⟩
  have q2 := q1.extF x1
  cases d with
  | str y =>
    obtain ⟨z, rfl, rfl⟩ := RepB.str m1
    unfold dEnum at q2
    simp only at q2
    split at q2
    · rename_i hl
      refine ⟨z, rfl, by rw [← line_eq]; exact Nat.le_trans hl (by decide), fun p hp => ?_⟩
      rw [enK_merge]
      exact q2 _ _ G1 (Ext.newO x1.gh hp) (.inr ⟨p, rfl, hp, same_none x1.gh hp, .dk upd_same (enK_rep z)⟩)
    · exact q2.elim
  | _ => exact q2.elim
/-! dict(d) -/
theorem call_dcopy {X : Cx} : CallR X (.type "dict") (fun xs H Q => ∃ a kvs, xs = [.ref a] ∧ Rd H a (.dK kvs) ∧ ∀ p, H p = none → Q (.ref p) (upd H p (.dK kvs))) := by
  intro pins s σ H xs us Q I r q
  obtain ⟨a, kvs, ex, hr, q⟩ := q
  subst ex
  rw [Vals.ref1 r]
  exact d_copyOf I hr fun p s' hp I' => ⟨.ref p, _, I', rfl, q p hp⟩
theorem b_dcopy (hm : X.mg "dict" = none) (ha : EB X ea W a f) (h : glB X "dict" = true := by kernel_rfl) (he : starEach (a :: []) X.env = (false, eval a X.env) :: starEach [] X.env := by rfl) :
    EF X ea W (.Call (.Name "dict" p) [a] [] pos) (un dCopy f) := by
  refine PE.imp (pe_callTy call_dcopy (glB_of h).gl hm boot_dict (pa_cons ha pa_nil he) (glB_of h).d2 (glB_of h).d1 he rfl) fun σ H Q ⟨ρ, G, ok, q⟩ => ?_
  refine ⟨ρ, G, ok, q.bind fun d v H1 G1 x1 m1 q1 => ?_⟩
  have q2 := q1.extF x1
  cases d with
  | dct t kvs =>
    cases t with
    | true => exact q2.elim
    | false =>
      obtain ⟨a0, ks, rfl, hr, rr⟩ := RepB.dctK x1.gh m1
      exact ⟨a0, ks, rfl, hr, fun p hp => q2 _ _ G1 (Ext.newO x1.gh hp) (.inr ⟨p, rfl, hp, same_none x1.gh hp, .dk upd_same rr⟩)⟩
  | _ => exact q2.elim
end
end SR

set_option linter.all false
set_option autoImplicit false
set_option Elab.async false
set_option maxRecDepth 100000
set_option maxHeartbeats 2000000
/-! SRr: sorted, index, +=, several names stored at once. -/
namespace SR
open PySem PySem.Spec PyProof.Rows L2 TL RZ
/-! ### order -/
mutual
theorem alk_py : ∀ a b : D, D.alk a b = true → PySem.W.alike (toPy a) (toPy b) = true
  | .int _, .int _, _ => by simp [toPy, PySem.W.alike]
  | .str _, .str _, _ => by simp [toPy, PySem.W.alike]
  | .tup xs, .tup ys, h => by
    unfold D.alk at h
    simp only [toPy, PySem.W.alike]
    exact alks_py xs ys h
  | .int _, .non, h => by cases h
  | .int _, .bl _, h => by cases h
  | .int _, .str _, h => by cases h
  | .int _, .tup _, h => by cases h
  | .int _, .lst _, h => by cases h
  | .int _, .dct _ _, h => by cases h
  | .int _, .scr _, h => by cases h
  | .str _, .non, h => by cases h
  | .str _, .bl _, h => by cases h
  | .str _, .int _, h => by cases h
  | .str _, .tup _, h => by cases h
  | .str _, .lst _, h => by cases h
  | .str _, .dct _ _, h => by cases h
  | .str _, .scr _, h => by cases h
  | .tup _, .non, h => by cases h
  | .tup _, .bl _, h => by cases h
  | .tup _, .int _, h => by cases h
  | .tup _, .str _, h => by cases h
  | .tup _, .lst _, h => by cases h
  | .tup _, .dct _ _, h => by cases h
  | .tup _, .scr _, h => by cases h
  | .non, _, h => by cases h
  | .bl _, _, h => by cases h
  | .lst _, _, h => by cases h
  | .dct _ _, _, h => by cases h
  | .scr _, _, h => by cases h
theorem alks_py : ∀ xs ys : List D, D.alks xs ys = true → PySem.W.alikeAll (toPys xs) (toPys ys) = true
  | [], _, _ => by simp [toPys, PySem.W.alikeAll]
  | _ :: _, [], _ => by simp [toPys, PySem.W.alikeAll]
  | x :: xs, y :: ys, h => by
    unfold D.alks at h
    rw [Bool.and_eq_true] at h
    simp only [toPys, PySem.W.alikeAll]
    rw [alk_py x y h.1, alks_py xs ys h.2]
    rfl
end
mutual
theorem ltv_py : ∀ a b : D, D.alk a b = true → a.lay = true → b.lay = true → PySem.W.dataLt (toPy a) (toPy b) = D.ltv a b
  | .int i, .int j, _, _, _ => by simp only [toPy, D.ltv]; exact PySem.W.dataLt_int i j
  | .str x, .str y, _, _, _ => by simp only [toPy, D.ltv]; exact PySem.W.dataLt_str _ _
  | .tup xs, .tup ys, h, h1, h2 => by
    unfold D.alk at h
    unfold D.lay at h1 h2
    simp only [toPy, D.ltv]
    rw [PySem.W.dataLt_tuple]
    exact ltvs_py xs ys h h1 h2
  | .int _, .non, h, _, _ => by cases h
  | .int _, .bl _, h, _, _ => by cases h
  | .int _, .str _, h, _, _ => by cases h
  | .int _, .tup _, h, _, _ => by cases h
  | .int _, .lst _, h, _, _ => by cases h
  | .int _, .dct _ _, h, _, _ => by cases h
  | .int _, .scr _, h, _, _ => by cases h
  | .str _, .non, h, _, _ => by cases h
  | .str _, .bl _, h, _, _ => by cases h
  | .str _, .int _, h, _, _ => by cases h
  | .str _, .tup _, h, _, _ => by cases h
  | .str _, .lst _, h, _, _ => by cases h
  | .str _, .dct _ _, h, _, _ => by cases h
  | .str _, .scr _, h, _, _ => by cases h
  | .tup _, .non, h, _, _ => by cases h
  | .tup _, .bl _, h, _, _ => by cases h
  | .tup _, .int _, h, _, _ => by cases h
  | .tup _, .str _, h, _, _ => by cases h
  | .tup _, .lst _, h, _, _ => by cases h
  | .tup _, .dct _ _, h, _, _ => by cases h
  | .tup _, .scr _, h, _, _ => by cases h
  | .non, _, h, _, _ => by cases h
  | .bl _, _, h, _, _ => by cases h
  | .lst _, _, h, _, _ => by cases h
  | .dct _ _, _, h, _, _ => by cases h
  | .scr _, _, h, _, _ => by cases h
theorem ltvs_py : ∀ xs ys : List D, D.alks xs ys = true → D.lays xs = true → D.lays ys = true → PyProof.Rows.lexLt itemOrd (PySem.W.keyToksAll (toPys xs)) (PySem.W.keyToksAll (toPys ys)) = D.ltvs xs ys
  | [], [], _, _, _ => by decide
  | [], y :: ys, _, _, _ => by simp only [toPys, D.ltvs, PySem.W.keyToksAll]; rfl
  | x :: xs, [], _, _, _ => by simp only [toPys, D.ltvs, PySem.W.keyToksAll]; rfl
  | x :: xs, y :: ys, h, h1, h2 => by
    unfold D.alks at h
    unfold D.lays at h1 h2
    rw [Bool.and_eq_true] at h h1 h2
    simp only [toPys, D.ltvs]
    rw [PySem.W.dataLt_cons (alk_py x y h.1), toPy_eqv x y h1.1 h2.1, ltvs_py xs ys h.2 h1.2 h2.2, ltv_py x y h.1 h1.1 h2.1]
end
structure SortOk (xs : List D) : Prop where
  lay : ∀ x ∈ xs, x.lay = true
  dep : ∀ x ∈ xs, x.dep ≤ 8
  alk : ∀ a ∈ xs, ∀ b ∈ xs, D.alk a b = true
  kind : (∀ x ∈ xs, x.neT = true) ∨ ∀ x ∈ xs, x.noT = true
  len : xs.length ≤ 100000
theorem sortOk_of {xs : List D} (h : sortOk xs = true) : SortOk xs := by
  unfold sortOk at h
  simp only [Bool.and_eq_true, Bool.or_eq_true, List.all_eq_true, decide_eq_true_eq] at h
  obtain ⟨⟨⟨h1, h2⟩, h3⟩, h4⟩ := h
  exact ⟨fun x hx => (h1 x hx).1, fun x hx => (h1 x hx).2, h2, h3, h4⟩
theorem sortable_of {xs : List D} (h : SortOk xs) : PySem.W.Sortable (xs.map toPy) := by
  rcases h.kind with k | k
  · refine .inl fun d hd => ?_
    obtain ⟨x, hx, rfl⟩ := List.mem_map.mp hd
    have := k x hx
    cases x with
    | tup ys =>
      cases ys with
      | nil => cases this
      | cons y ys => exact ⟨toPy y, toPys ys, rfl⟩
    | _ => cases this
  · refine .inr fun d hd => ?_
    obtain ⟨x, hx, rfl⟩ := List.mem_map.mp hd
    have := k x hx
    cases x with
    | int i => exact ⟨fun e => (nomatch e), fun xs e => (nomatch e)⟩
    | str z => exact ⟨fun e => (nomatch e), fun xs e => (nomatch e)⟩
    | _ => cases this
theorem alike_of {xs : List D} (h : SortOk xs) : PySem.W.AllAlike (xs.map toPy) := by
  intro d hd d' hd'
  obtain ⟨x, hx, rfl⟩ := List.mem_map.mp hd
  obtain ⟨y, hy, rfl⟩ := List.mem_map.mp hd'
  exact alk_py x y (h.alk x hx y hy)
/-- pairs of a value and what is told of it, sorted by what is told -/
def sortP (ps : List (V × D)) : List (V × D) := ps.mergeSort (PySem.W.dataLe false fun b => toPy b.2)
theorem sortP_snd {ps : List (V × D)} (h : SortOk (ps.map (·.2))) : (sortP ps).map (·.2) = (ps.map (·.2)).mergeSort D.leV := by
  unfold sortP
  rw [List.map_mergeSort]
  intro a ha b hb
  have h1 : a.2 ∈ ps.map (·.2) := List.mem_map.mpr ⟨a, ha, rfl⟩
  have h2 : b.2 ∈ ps.map (·.2) := List.mem_map.mpr ⟨b, hb, rfl⟩
  show (!PySem.W.dataLt (toPy b.2) (toPy a.2)) = !D.ltv b.2 a.2
  rw [ltv_py _ _ (h.alk _ h2 _ h1) (h.lay _ h2) (h.lay _ h1)]
theorem sortP_reps {K : PySem.W.Frag} {G : Hp} {vs : List V} {ds : List D} (r : Reps K G vs ds) (h : SortOk ds) : Reps K G ((sortP (vs.zip ds)).map (·.1)) (ds.mergeSort D.leV) := by
  have e : (vs.zip ds).map (·.2) = ds := by
    rw [List.map_snd_zip]
    exact Nat.le_of_eq r.1.symm
  have h2 := sortP_snd (ps := vs.zip ds) (by rw [e]; exact h)
  rw [e] at h2
  rw [← h2]
  have all : ∀ p ∈ sortP (vs.zip ds), Rep K G p.1 p.2 := fun p hp => by
    unfold sortP at hp
    rw [List.mem_mergeSort] at hp
    obtain ⟨i, hi⟩ := List.getElem?_of_mem hp
    rw [List.getElem?_zip_eq_some] at hi
    exact r.2 i _ _ hi.1 hi.2
  generalize sortP (vs.zip ds) = l at all
  induction l with
  | nil => exact .nil
  | cons p l ih => exact .cons (all p List.mem_cons_self) (ih fun q hq => all q (List.mem_cons_of_mem _ hq))
section
variable {X : Cx} {pins : List (Addr × Obj)} {σ : Sg} {H : Hp} {s : Shared}
theorem each_rel {G : Hp} : ∀ {vs : List V} {ds : List D} {us : List Value}, Reps X.K G vs ds → Vals vs us → PySem.W.EachIs (fun u (b : V × D) => RelV b.1 u) us (vs.zip ds)
  | _, ds, _, r, .nil => by
    cases ds with
    | nil => exact .nil
    | cons d ds => exact absurd r.1 (by simp)
  | v :: vs, ds, _, r, .cons h t => by
    cases ds with
    | nil => exact absurd r.1 (by simp)
    | cons d ds =>
      obtain ⟨v', ws, e, _, r2⟩ := r.consOf
      cases e
      exact .cons h (each_rel r2 t)
theorem each_reads {G : Hp} (I : Inv X pins σ H s) (sm : Same G H) : ∀ {vs : List V} {ds : List D} {us : List Value}, Reps X.K G vs ds → (∀ d ∈ ds, d.lay = true) → Vals vs us → PySem.W.EachIs (fun u (b : V × D) => ∃ as, Reads s.heap u (toPy b.2) as) us (vs.zip ds)
  | _, ds, _, r, _, .nil => by
    cases ds with
    | nil => exact .nil
    | cons d ds => exact absurd r.1 (by simp)
  | v :: vs, ds, _, r, hl, .cons h t => by
    cases ds with
    | nil => exact absurd r.1 (by simp)
    | cons d ds =>
      obtain ⟨v', ws, e, r1, r2⟩ := r.consOf
      cases e
      exact .cons (Dp.reads I _ _ _ (RepB.dp sm (hl d List.mem_cons_self) (.inl r1)) h) (each_reads I sm r2 (fun d hd => hl d (List.mem_cons_of_mem _ hd)) t)
theorem vals_each : ∀ {ps : List (V × D)} {us : List Value}, PySem.W.EachIs (fun u (b : V × D) => RelV b.1 u) us ps → Vals (ps.map (·.1)) us
  | _, _, .nil => .nil
  | _, _, .cons h t => .cons h (vals_each t)
theorem dep_bound {ds : List D} {vs : List V} (h : SortOk ds) (n : Nat) (hn : n + 16 < cLine) : ∀ b ∈ vs.zip ds, n + 2 + (toPy b.2).depth < cLine := fun b hb => by
  have h1 := toPy_dep b.2
  have h2 := h.dep b.2 (List.of_mem_zip hb).2
  omega
theorem zip_snd {G : Hp} {vs : List V} {ds : List D} (r : Reps X.K G vs ds) : (vs.zip ds).map (fun b => toPy b.2) = ds.map toPy := by
  have : (vs.zip ds).map (fun b => toPy b.2) = ((vs.zip ds).map (·.2)).map toPy := by rw [List.map_map]; rfl
  rw [this, List.map_snd_zip]
  exact Nat.le_of_eq r.1.symm
end
def rSortD (K : PySem.W.Frag) : List V → Hp → VK → Prop := fun xs H Q => ∃ (a : Addr) (vs : List V) (ds : List D) (G : Hp), xs = [.ref a] ∧ SqL K H a vs ∧ Same G H ∧ Reps K G vs ds ∧ SortOk ds ∧ ∀ p, H p = none → Q (.ref p) (upd H p (.lst ((sortP (vs.zip ds)).map (·.1))))
theorem call_sortD {X : Cx} (hu : X.A.units + 64 < cLine) : CallR X (.builtin "sorted") (rSortD X.K) := by
  intro pins s σ H xs us Q I r q
  obtain ⟨a, vs, ds, G, ex, hs, sm, rr, ok, q⟩ := q
  subst ex
  obtain ⟨its, rv, hl, hz⟩ := I.list hs
  rw [Vals.ref1 r]
  have hln : (vs.zip ds).length ≤ sizeLine := by rw [List.length_zip, rr.1, Nat.min_self]; exact Nat.le_trans ok.len (by rw [sizeLine_eq]; decide)
  have hsn := zip_snd rr
  refine PySem.W.sorted_data (β := V × D) (R := fun u b => RelV b.1 u) (enc := fun b => toPy b.2) hl.isList (each_rel rr rv) (each_reads I sm rr ok.lay rv) (by rw [hsn]; exact alike_of ok) (by rw [hsn]; exact sortable_of ok) hln (dep_bound ok _ (by omega)) fun out ho eo => ?_
  obtain ⟨ep, he'⟩ := PyProof.Rows.sortedAll_at s.heap its (List.toArray out)
  have hv := vals_each eo
  have hlen : ((sortP (vs.zip ds)).map (·.1)).length ≤ sizeLine := by
    unfold sortP
    rw [List.length_map, List.length_mergeSort]
    exact hln
  exact ⟨.ref (s.heap.objs.size + 1), upd H (s.heap.objs.size + 1) (.lst ((sortP (vs.zip ds)).map (·.1))), I.laid (t' := s.toks) (fun _ _ => PyProof.Rows.sortedAll_old) (Nat.le_succ _) ⟨hlen, out, ep, hv, he'⟩, rfl, q _ (I.hok.fresh (Nat.le_succ _))⟩
/-- sorted(d) -/
def rSortK2 : List V → Hp → VK → Prop := fun xs H Q => ∃ (a : Addr) (kvs : List (Key × V)), xs = [.ref a] ∧ Rd H a (.dK kvs) ∧ SortOk (kvs.map fun p => keyD p.1) ∧ ∀ p, H p = none → Q (.ref p) (upd H p (.lst ((sortP ((kvs.map fun p => kV p.1).zip (kvs.map fun p => keyD p.1))).map (·.1))))
theorem call_sortDK {X : Cx} (hc : X.calm = true) (hu : X.A.units + 64 < cLine) : CallR X (.builtin "sorted") rSortK2 := by
  intro pins s σ H xs us Q I r q
  obtain ⟨a, kvs, ex, hd, ok, q⟩ := q
  subst ex
  rw [Vals.ref1 r]
  obtain ⟨z, lo, vs, rel, dd⟩ := dk_rd I.hok hd
  obtain ⟨ep, hat⟩ := dd.dictAt
  have hkl : kvs.length = vs.length := rel.length
  have hkeys : kvs.map (·.1) = vs.map (·.1) := rel.keys
  have h16 : vs.length ≤ sizeLine := by rw [← hkl]; exact z
  have hkv : (kvs.map fun p => kV p.1) = vs.map fun p => kV p.1 := by
    have e := congrArg (List.map kV) hkeys
    rw [List.map_map, List.map_map] at e
    exact e
  refine Calls.call_function_entry PyProof.Rows.kind_sorted PyProof.Rows.plain_sorted PyProof.Rows.entry_sorted (PyProof.Rows.args_sorted1 _) ?_
  unfold Builtin.«sorted»
  refine wpAny_bind (m := checkCount "sorted" 1 1 _) (wpAny_pure (wpAny_bind (PySem.W.kdu_collect (A := X.A.in1) (PySem.W.kdl_dict (knd := mixKind X.prog X.w) (kvs := vs) (ep := ep) lo) (I.ok.hd hc) hat h16 fun h' tk acc hk hacc => ?_)))
  have hal : acc.toList.length = vs.length := by rw [Array.length_toList, hacc.1]
  have rv : Vals (kvs.map fun p => kV p.1) acc.toList := by
    rw [hkv]
    exact keys_at hal fun j v e => hacc.2 j v (by rw [← Array.getElem?_toList]; exact e)
  have I1 : Inv X pins σ H { s with heap := h', toks := tk } := I.kept hk
  refine wpAny_bind (wpAny_newList ?_ (by rw [hal]; exact h16))
  have hoL : (h'.push (seqObj "list" acc.toList.toArray 0)).get? h'.objs.size = some (seqObj "list" acc.toList.toArray 0) := Heap.get?_push_size _ rfl
  have I2 : Inv X pins σ H { s with heap := h'.push (seqObj "list" acc.toList.toArray 0), toks := tk } := I1.kept (t' := tk) fun b o e => Heap.get?_push_of_some _ e
  have rr : Reps X.K (fun _ => none) (kvs.map fun p => kV p.1) (kvs.map fun p => keyD p.1) := by
    have := keyDs_reps (K := X.K) (G := fun _ => none) (kvs.map (·.1))
    rw [List.map_map, List.map_map] at this
    exact this
  have sm : Same (fun _ => none) H := fun b o e => nomatch e
  have hsn := zip_snd rr
  have hln : ((kvs.map fun p => kV p.1).zip (kvs.map fun p => keyD p.1)).length ≤ sizeLine := by rw [List.length_zip, List.length_map, List.length_map, Nat.min_self, hkl]; exact h16
  have er := each_reads I2 sm rr ok.lay rv
  have noL : ∀ (d : D) (v : V) (u : Value), d.noT = true ∨ d.neT = true → True := fun _ _ _ _ => trivial
  have er2 : PySem.W.EachIs (fun u (b : V × D) => ∃ as, Reads (h'.push (seqObj "list" acc.toList.toArray 0)) u (toPy b.2) as ∧ h'.objs.size ∉ as) acc.toList ((kvs.map fun p => kV p.1).zip (kvs.map fun p => keyD p.1)) := by
    clear er hsn hln ok q hkv rel hkeys hacc I2 hkl z hd
    generalize acc.toList = us at rv ⊢
    generalize (h'.push (seqObj "list" us.toArray 0)) = hh
    clear hal hoL
    induction kvs generalizing us with
    | nil => cases rv; exact .nil
    | cons p kvs ih =>
      cases rv with
      | cons h t =>
        refine .cons ?_ (ih (us := _) (rv := t) (rr := by
          have := rr
          obtain ⟨v, ws, e, _, r2⟩ := this.consOf
          have e2 : ws = kvs.map fun p => kV p.1 := (List.cons.inj e).2.symm
          rw [e2] at r2
          exact r2)
        )
        obtain ⟨k, v⟩ := p
        cases k with
        | inl i => obtain ⟨t, rfl⟩ := (show ∃ t, _ = Value.int i t from h); exact ⟨[], .int _ _, by simp⟩
        | inr z =>
          obtain ⟨t, rfl⟩ := (show ∃ t, _ = Value.str z t from h)
          refine ⟨[], ?_, by simp⟩
          have : toPy (keyD (Sum.inr z)) = .str z := by unfold keyD toPy; rw [mk_tl]
          rw [this]
          exact .str _ _
  refine wpAny_bind (wpAny_holding (PySem.W.list_sort_data (β := V × D) (R := fun u b => RelV b.1 u) (enc := fun b => toPy b.2) hoL (each_rel rr rv) er2 (by rw [hsn]; exact alike_of ok) (by rw [hsn]; exact sortable_of ok) hln
    (fun b hb => by have := dep_bound (vs := kvs.map fun p => kV p.1) ok (X.A.units + 1) (by omega) b hb; show X.A.units + 1 + 1 + _ < cLine; omega) fun out ol eo => ?_))
  obtain ⟨c, hcq⟩ := PyProof.Rows.sortedHeap_at (vs := acc.toList) (out := out.toArray) hoL
  have hv := vals_each eo
  have hlen : ((sortP ((kvs.map fun p => kV p.1).zip (kvs.map fun p => keyD p.1))).map (·.1)).length ≤ sizeLine := by
    unfold sortP
    rw [List.length_map, List.length_mergeSort]
    exact hln
  refine wpAny_pure ⟨_, rfl, .ref h'.objs.size, _, I1.laid (a := h'.objs.size) (o := .lst ((sortP ((kvs.map fun p => kV p.1).zip (kvs.map fun p => keyD p.1))).map (·.1))) (t' := tk) (fun b u e => ?_) (Nat.le_refl _) ⟨hlen, out, c, hv, hcq⟩, rfl, q _ (I1.hok.fresh (Nat.le_refl _))⟩
  have hb : b < h'.objs.size := Heap.lt_size e
  rw [PyProof.Rows.sortedHeap_old (Nat.ne_of_lt hb) (by rw [size_push']; exact Nat.lt_succ_of_lt hb)]
  exact Heap.get?_push_of_some _ e
section
variable {X : Cx} {ea : EA} {W : WX} {m : Mode} {e a b o c : Expr} {p p2 pos pos' pos2 apos cpos : Pos} {f g k : EX} {x y : Str}
theorem keyDs_fst {K : PySem.W.Frag} {G : Hp} {kvs : List (Key × V)} {ds : List (D × D)} (r : RepK K G kvs ds) : (kvs.map fun p => keyD p.1) = ds.map fun p => p.1 := by
  apply List.ext_getElem (by rw [List.length_map, List.length_map]; exact r.1)
  intro i h1 h2
  rw [List.length_map] at h1 h2
  rw [List.getElem_map, List.getElem_map]
  exact (r.2 i _ _ (List.getElem?_eq_getElem h1) (List.getElem?_eq_getElem h2)).1.symm
/-- sorted(x) -/
theorem b_sort (hc : X.calm = true) (hu : X.A.units + 64 < cLine) (hm : X.mg "sorted" = none) (ha : EB X ea W a f) (h : glB X "sorted" = true := by kernel_rfl) (he : starEach (a :: []) X.env = (false, eval a X.env) :: starEach [] X.env := by rfl) :
    EF X ea W (.Call (.Name "sorted" p) [a] [] pos) (un dSort f) := by
  refine PE.imp (pe_callB ((call_sortD hu).or (call_sortDK hc hu)) (glB_of h).gl hm boot_sorted (pa_cons ha pa_nil he) (glB_of h).d2 (glB_of h).d1 he rfl) fun σ H Q ⟨ρ, G, ok, q⟩ => ?_
  refine ⟨ρ, G, ok, q.bind fun d v H1 G1 x1 m1 q1 => ?_⟩
  have q2 := q1.extF x1
  unfold dSort at q2
  split at q2
  · split at q2
    · rename_i xs hk
      obtain ⟨pp, vs, rfl, hp, r⟩ := RepB.lst x1.gh m1
      exact .inl ⟨pp, vs, xs, G1, rfl, .inl (.inl hp), x1.gh, r, sortOk_of hk, new_lst x1.gh (sortP_reps r (sortOk_of hk)) q2⟩
    · exact q2.elim
  · split at q2
    · rename_i kvs hk
      obtain ⟨pp, ks, rfl, hr, rr⟩ := RepB.dctK x1.gh m1
      have e := keyDs_fst rr
      have hk' := sortOk_of hk
      have e0 : (kvs.map fun p => p.1) = ks.map fun p => keyD p.1 := e.symm
      rw [e0] at hk' q2
      have r2 : Reps X.K G1 (ks.map fun p => kV p.1) (ks.map fun p => keyD p.1) := by
        have := keyDs_reps (K := X.K) (G := G1) (ks.map (·.1))
        rw [List.map_map, List.map_map] at this
        exact this
      exact .inr ⟨pp, ks, rfl, hr, hk', new_lst x1.gh (sortP_reps r2 hk') q2⟩
    · exact q2.elim
  · exact q2.elim
/-- xs.index(y) -/
theorem opm_lix (hu : X.A.units + 65 < cLine) : OpM X "list" "list.index" isL dLIx := by
  refine ⟨fun d e c h => ?_, fun H G x d s r h => kindL s r h, _, mt_indexD hu, fun H G x y d e z Q s rx hd ry h q => ?_⟩
  · unfold dLIx at h; split at h <;> (try split at h) <;> (try split at h) <;> cases h
  · unfold dLIx at h
    split at h
    · split at h
      · rename_i xs hg
        rw [Bool.and_eq_true] at hg
        split at h
        · rename_i j hj
          cases h
          have gl := good_lay hg.1
          have hl := RepB.dp s gl rx
          unfold toPy at hl
          have hs := toPy_shaped hg.1
          unfold toPy at hs
          unfold D.lay at gl
          obtain ⟨hj1, hj2, hj3⟩ := List.findIdx?_eq_some_iff_getElem.mp hj
          have get : ∀ m : Nat, (toPys xs)[m]? = (xs[m]?).map toPy := by
            intro m
            have : toPys xs = xs.map toPy := by
              clear hl hs gl hj hj1 hj2 hj3 rx hg q hd
              induction xs with
              | nil => rfl
              | cons x xs ih => simp [toPys, ih]
            rw [this, List.getElem?_map]
          have lay_at : ∀ (m : Nat) (w : D), xs[m]? = some w → w.lay = true := by
            intro m w hw
            clear hl hs hj hj1 hj2 hj3 rx hg q get hd
            induction xs generalizing m with
            | nil => simp at hw
            | cons x xs ih =>
              unfold D.lays at gl
              rw [Bool.and_eq_true] at gl
              cases m with
              | zero => simp at hw; rw [← hw]; exact gl.1
              | succ m => exact ih gl.2 m (by simpa using hw)
          have xe : ∃ a0, x = .ref a0 := by
            obtain ⟨a0, vs, e, _⟩ := RepB.lst s rx
            exact ⟨a0, e⟩
          obtain ⟨a0, rfl⟩ := xe
          have hy := RepB.dp s (good_lay hg.2) ry
          refine ⟨a0, y, toPy e, toPys xs, j, toPy xs[j], rfl, rfl, hl, hy, hs, toPy_shaped hg.2, ?_, ?_, ?_, told s q (.int _) rfl⟩
          · rw [get, List.getElem?_eq_getElem hj1]; rfl
          · rw [toPy_eqv _ _ (lay_at j _ (List.getElem?_eq_getElem hj1)) (good_lay hg.2)]; exact hj2
          · intro m z' hm hz
            rw [get] at hz
            obtain ⟨w, hw, rfl⟩ := Option.map_eq_some_iff.mp hz
            rw [toPy_eqv _ _ (lay_at m _ hw) (good_lay hg.2)]
            have hml : m < xs.length := (List.getElem?_eq_some_iff.mp hw).1
            have := hj3 m hm
            rw [List.getElem?_eq_getElem hml] at hw
            cases hw
            simpa using this
        · cases h
      · cases h
    · cases h
theorem m_lix (hu : X.A.units + 65 < cLine) (ha : EB X ea W a f) (hb : EB X ea W b g) (hbase : attributeBase a "index" X.env (eval a X.env) = eval a X.env := by rfl) (hfew : ((backTo cpos (starEach (b :: []) X.env)).all (fun x => !x.1) && (backToKw cpos (keywordEach [] X.env)).all (fun x => x.1.isSome)
      && decide ((b :: ([] : List Expr)).length + ([] : List Keyword).length + (if ([] : List Keyword).isEmpty then 0 else 1) < 30)) = true := by rfl) (hline : (apos.endLine == cpos.line) = true := by rfl)
    (hs : starEach (b :: []) X.env = (false, eval b X.env) :: starEach [] X.env := by rfl) : EF X ea W (.Call (.Attribute a "index" apos) [b] [] cpos) (meth isL dLIx f g) := ef_m1 PySem.F.plainAttrs_list PySem.F.slot_list_index PySem.F.type_list_index (opm_lix hu) ha hb hbase hfew hline hs
/-- x += e, numbers -/
theorem s_aug (nd : X.N.Nodup) (i : Nat) (he : EB X ea W e f) (h : okS X i x = true := by kernel_rfl) (hf : X.fn x = true := by rfl) : ES X ea W m (.AugAssign (.Name x pos') .Add e pos) (sSet i (SR.bin dAddI (var i) f)) := by
  refine PS.imp (ps_aug nd (okS_of h).at_ (okS_of h).loc he ip_add (.inl hf)) fun D0 σ H ⟨ρ, H0, G0, G, ok, q⟩ => ?_
  unfold sSet SR.bin var at q
  cases r : ρ[i]? with
  | none => rw [r] at q; exact q.elim
  | some sl =>
    rw [r] at q
    cases sl with
    | dead => exact q.elim
    | own d => exact q.elim
    | pl d =>
      obtain ⟨v, hs, rv⟩ := ok.env.sl i _ r
      refine ⟨v, hs, ρ, G, ok.env, ?_⟩
      simp only [ok_bind] at q
      cases r2 : f ρ with
      | bad => rw [r2] at q; exact q
      | rs c => rw [r2] at q; exact fun H1 G1 x => q σ H1 G1 (ok.extend x) x.gg
      | ok d2 =>
        rw [r2] at q
        intro w H1 G1 x1 m1
        simp only [ok_bind] at q
        unfold dAddI at q
        split at q
        · rename_i ii jj
          cases rv
          have e2 := RepB.int m1
          subst e2
          exact ⟨ii, jj, rfl, rfl, q _ H1 G1 ((ok.extend x1).setPl (.int _)) x1.gg⟩
        · exact q.elim
/-- y = x.pop() -/
theorem s_pop (nd : X.N.Nodup) (j i : Nat) {px py : Pos} (h : okS X j y = true := by kernel_rfl) (h2 : okV X i x = true := by kernel_rfl) (hline : (apos.endLine == cpos.line) = true := by rfl) (hf : X.fn y = true := by rfl) :
    ES X ea W m (.Assign [.Name y py] (.Call (.Attribute (.Name x px) "pop" apos) [] [] cpos) pos) (sPop j i) := let o := okV_of h2; es_pop nd (okS_of h).at_ (okS_of h).loc o.at_ o.vis o.d1 o.d2 hline (.inl hf)
/-- a, b = (x, y), the tuple made -/
theorem s_unpT {es : List Expr} {k2 : Nat} {tg : Expr} {is : List Nat} {gg : GX} (he : EG X ea W (.Tuple es k2 pos2) f) (hg : GJ X tg is gg) (hn : ∀ d ρ c, gg d ρ ≠ .rs c) (hs : swapsWithSole [tg] (.Tuple es k2 pos2) pos.line X.env = pure false := by rfl) (hw : swappedStores [tg] (.Tuple es k2 pos2) X.env = pure none := by kernel_rfl)
    (h1 : (assignEach [tg] X.env).map (·.2) = [assign tg X.env] := by rfl) : ES X ea W m (.Assign [tg] (.Tuple es k2 pos2) pos) (sUnp gg f) := es_unp he hg hn hs hw h1
/-- a, b = x, y, stored at once -/
theorem s_par {i j : Nat} {px py pt : Pos} {kt k2 : Nat} {r : AX} (hc : X.calm = true) (nd : X.N.Nodup) (hij : i ≠ j) (ha : EA' X ea W [a, b] r) (h1 : okS X i x = true := by kernel_rfl) (h2 : okS X j y = true := by kernel_rfl) (hl1 : locB1 X x = true := by kernel_rfl) (hl2 : locB1 X y = true := by kernel_rfl)
    (hw : swappedStores [.Tuple [.Name x px, .Name y py] kt pt] (.Tuple [a, b] k2 pos2) X.env = pure (some [x, y]) := by kernel_rfl) (hs : swapsWithSole [.Tuple [.Name x px, .Name y py] kt pt] (.Tuple [a, b] k2 pos2) pos.line X.env = pure false := by rfl) :
    ES X ea W m (.Assign [.Tuple [.Name x px, .Name y py] kt pt] (.Tuple [a, b] k2 pos2) pos) (sPar [i, j] r) := by
  refine PS.imp (ps_par hc nd (okS_of h1).at_ (okS_of h2).at_ hij (locB1_of hl1) (locB1_of hl2) ha hw hs) fun D0 σ H ⟨ρ, H0, G0, G, ok, q⟩ => ?_
  refine ⟨ρ, G, ok.env, ?_⟩
  unfold sPar at q
  cases hr : r ρ with
  | bad => rw [hr] at q; exact q
  | rs c => rw [hr] at q; exact fun H1 G1 x => q σ H1 G1 (ok.extend x) x.gg
  | ok ds =>
    rw [hr] at q
    intro vs H1 G1 x1 m1
    simp only at q
    split at q
    · rename_i hl
      match ds, hl with
      | [d1, d2], _ =>
        obtain ⟨v1, ws, rfl, r1, r2⟩ := m1.consOf
        obtain ⟨v2, ws2, rfl, r3, r4⟩ := r2.consOf
        have := r4.nilOf
        subst this
        exact ⟨v1, v2, rfl, q _ H1 G1 (((ok.extend x1).setPl r1).setPl r3) x1.gg⟩
    · exact q.elim
end
end SR

set_option linter.all false
set_option autoImplicit false
/-! SRy: still more of what operations do on plain data. -/
namespace SR
/-- xs[::-1] -/
@[simp] def dRevL : D → Res D
  | .lst xs => .ok (.lst xs.reverse)
  | _ => .bad
@[simp] def dRevT : D → Res D
  | .tup xs => if xs.length ≤ 1000 then .ok (.tup xs.reverse) else .bad
  | _ => .bad
/-- min(xs) -/
def minL : D → List D → D
  | m, [] => m
  | m, x :: r => minL (if D.ltv x m then x else m) r
def dMinL : D → Res D
  | .lst (x :: r) => if sortOk (x :: r) then .ok (minL x r) else .bad
  | _ => .bad
/-- str(i), i a figure -/
@[simp] def dStr : D → Res D
  | .int i => if 0 ≤ i ∧ i < 10 then .ok (.str [48 + i.toNat]) else .bad
  | _ => .bad
/-- int(z), z a figure -/
@[simp] def dFig : D → Res D
  | .str [c] => if 48 ≤ c ∧ c ≤ 57 then .ok (.int ((c : Int) - 48)) else .bad
  | _ => .bad
/-- a display of a dict whose keys are tuples -/
@[simp] def dctTE (r : PX) : EX := fun ρ => (r ρ).bind fun ps => if (ps.all fun p => fitK true p.1) && decide (ps.length ≤ 15) then .ok (.dct true (putAll ps)) else .bad
/-- x.index(y), x a tuple of numbers -/
def dTIx : D → D → Res D
  | .tup xs, .int y => if xs.all D.isIn then (match xs.findIdx? (fun x => D.eq x (.int y)) with | some j => .ok (.int (j : Nat)) | none => .bad) else .bad
  | _, _ => .bad
@[simp] def isTu : D → Bool
  | .tup _ => true
  | _ => false
/-- list(range(..)), tuple(range(..)), out of what range walks -/
@[simp] def lstRg (r : AX) : EX := fun ρ => (r ρ).bind fun xs => if xs.length ≤ 1000 then .ok (.lst xs) else .bad
@[simp] def tupRg (r : AX) : EX := fun ρ => (r ρ).bind fun xs => if xs.length ≤ 1000 then .ok (.tup xs) else .bad
/-- what is not walked here: nothing is told of it -/
@[simp] def badE : EX := fun _ => .bad
@[simp] def badS : SX := fun _ => .bad
/-- one's own list or dict is changed no more -/
@[simp] def sPin (j : Nat) : SX := fun ρ => match ρ[j]? with
  | some (.pl _) => .nx ρ
  | some (.own d) => .nx (ρ.set j (.pl d))
  | _ => .bad
end SR

set_option linter.all false
set_option autoImplicit false
set_option Elab.async false
set_option maxRecDepth 100000
set_option maxHeartbeats 2000000
/-! SRs: x[k] = v, x[::-1], min, max. -/
namespace SR
open PySem PySem.Spec PyProof.Rows L2 TL RZ
section
variable {X : Cx} {ea : EA} {W : WX} {m : Mode} {e a b o c : Expr} {p p2 pos pos' pos2 apos cpos : Pos} {f g k : EX} {x y : Str}
theorem s_put (hu : X.A.units + 1 < cLine) (i : Nat) {kx : Expr} {px ps : Pos} (hk : EB X ea W kx g) (he : EG X ea W e f) (h : okV X i x = true := by kernel_rfl)
    (hs : swapsWithSole [.Subscript (.Name x px) kx ps] e pos.line X.env = pure false := by rfl) (hw : swappedStores [.Subscript (.Name x px) kx ps] e X.env = pure none := by rfl)
    (ha : ∀ v, assign (.Subscript (.Name x px) kx ps) X.env v = (do
      let ov ← holding [v] (eval (.Name x px) X.env)
      let iv ← holding [v, ov] (eval kx X.env)
      standAt ps
      holding [v, ov, iv] (setItem ov iv v)
      release [v, ov, iv] []) := by intro _; rfl) :
    ES X ea W m (.Assign [.Subscript (.Name x px) kx ps] e pos) (sPut i g f) := let o := okV_of h; es_put hu o.at_ o.vis hk he o.d1 o.d2 hs hw ha
/-- xs[::-1] of a list -/
theorem ef_rev {j : Nat} {p1 p2 p3 : Pos} (ha : EB X ea W a f) : EF X ea W (.Subscript a (.Slice none none (some (.UnaryOp .USub (.Constant (.int 1) j p1) p2)) p3) pos) (un dRevL f) := by
  refine PE.imp (pe_revL ha) fun σ H Q ⟨ρ, G, ok, q⟩ => ?_
  refine ⟨ρ, G, ok, q.bind fun d v H1 G1 x1 m1 q1 => ?_⟩
  have q1 := q1.extF x1
  unfold dRevL at q1
  split at q1
  · obtain ⟨p, vs, rfl, hp, r⟩ := RepB.lst x1.gh m1
    exact ⟨p, vs, rfl, .inl (.inl hp), new_lst x1.gh r.reverse q1⟩
  · exact q1.elim
theorem boot_max : bootBuiltins "max" = some (.builtin "max") := by boot_by_name
theorem boot_min : bootBuiltins "min" = some (.builtin "min") := by boot_by_name
theorem b_max2 (hc : X.calm = true) (hm : X.mg "max" = none) (ha : EB X ea W a f) (hb : EB X ea W b g) (h : glB X "max" = true := by kernel_rfl) (he : starEach (a :: [b]) X.env = (false, eval a X.env) :: starEach [b] X.env := by rfl) (he2 : starEach (b :: []) X.env = (false, eval b X.env) :: starEach [] X.env := by rfl) (hpl : (backTo pos (starEach [b] X.env)).any (·.1) = false := by rfl) :
    EF X ea W (.Call (.Name "max" p) [a, b] [] pos) (SR.bin dMax2 f g) := by
  refine PE.imp (pe_callB (call_max2 hc) (glB_of h).gl hm boot_max (pa_cons ha (pa_cons hb pa_nil he2) he) (glB_of h).d2 (glB_of h).d1 he hpl) fun σ H Q ⟨ρ, G, ok, q⟩ => ?_
  refine ⟨ρ, G, ok, q.bind fun d v H1 G1 x1 m1 q1 => ⟨ρ, G1, ok.ext x1, (q1.extF x1).bind fun e' u H2 G2 x2 m2 q2 => ?_⟩⟩
  have q3 := q2.extF x2
  unfold dMax2 at q3
  split at q3
  · have e1 := RepB.int m1
    have e2 := RepB.int m2
    subst e1; subst e2
    exact ⟨_, _, rfl, told x2.gh q3 (.int _) rfl⟩
  · exact q3.elim
theorem b_min2 (hc : X.calm = true) (hm : X.mg "min" = none) (ha : EB X ea W a f) (hb : EB X ea W b g) (h : glB X "min" = true := by kernel_rfl) (he : starEach (a :: [b]) X.env = (false, eval a X.env) :: starEach [b] X.env := by rfl) (he2 : starEach (b :: []) X.env = (false, eval b X.env) :: starEach [] X.env := by rfl) (hpl : (backTo pos (starEach [b] X.env)).any (·.1) = false := by rfl) :
    EF X ea W (.Call (.Name "min" p) [a, b] [] pos) (SR.bin dMin2 f g) := by
  refine PE.imp (pe_callB (call_min2 hc) (glB_of h).gl hm boot_min (pa_cons ha (pa_cons hb pa_nil he2) he) (glB_of h).d2 (glB_of h).d1 he hpl) fun σ H Q ⟨ρ, G, ok, q⟩ => ?_
  refine ⟨ρ, G, ok, q.bind fun d v H1 G1 x1 m1 q1 => ⟨ρ, G1, ok.ext x1, (q1.extF x1).bind fun e' u H2 G2 x2 m2 q2 => ?_⟩⟩
  have q3 := q2.extF x2
  unfold dMin2 at q3
  split at q3
  · have e1 := RepB.int m1
    have e2 := RepB.int m2
    subst e1; subst e2
    exact ⟨_, _, rfl, told x2.gh q3 (.int _) rfl⟩
  · exact q3.elim
/-! ### what is not walked -/
theorem ef_bad : EF X ea W e badE := ⟨fun pins s σ H Q I ⟨ρ, G, ok, q⟩ => q.elim⟩
theorem es_bad {st : Stmt} : ES X ea W m st badS := ⟨fun pins s σ H D I ⟨ρ, H0, G0, G, ok, q⟩ => q.elim⟩
/-! ### one's own list or dict goes into the ground, as it stands -/
theorem ps_frz {st : Stmt} {t : TS} (h : PS X st t) : PS X st (fun D σ H => t D σ H ∨ ∃ p u, H p = some u ∧ Mut (some u) ∧ ∀ od, t D σ (upd H p (.frz od u))) := ⟨fun pins s σ H D I q => by
  rcases q with q | ⟨p, u, hp, mu, q⟩
  · exact h.run pins s σ H D I q
  · obtain ⟨od, I2⟩ := I.lock hp mu
    exact h.run pins s σ _ D I2 (q od)⟩
theorem s_pin {st : Stmt} {s : SX} (j : Nat) (h : ES X ea W m st s) : ES X ea W m st (sSeq (sPin j) s) := PS.imp (ps_frz h) fun D σ H ⟨ρ, H0, G0, G, ok, q⟩ => by
  unfold sSeq sPin at q
  cases r : ρ[j]? with
  | none => rw [r] at q; exact q.elim
  | some sl =>
    rw [r] at q
    cases sl with
    | dead => exact q.elim
    | pl d => exact .inl ⟨ρ, H0, G0, G, ok, q⟩
    | own d =>
      obtain ⟨p, hs, g, cc⟩ := ok.env.sl j _ r
      have e : σ.set j (some (V.ref p)) = σ := by
        apply List.ext_getElem?
        intro k
        by_cases hk : j = k
        · subst hk
          rw [List.getElem?_set_self (List.getElem?_eq_some_iff.mp hs).1, hs]
        · rw [List.getElem?_set_ne hk]
      have e2 : (ρ.set j .dead).set j (.pl d) = ρ.set j (.pl d) := by rw [List.set_set]
      rcases ok.toGz r hs with ⟨G', sm, ok', rv⟩ | ⟨u, hp, mu, k⟩
      · have ok2 := ok'.setPl (i := j) rv
        rw [List.set_set, List.set_set, e] at ok2
        exact .inl ⟨_, H0, G0, G', ok2, q.same sm⟩
      · refine .inr ⟨p, u, hp, mu, fun od => ?_⟩
        obtain ⟨G', sm, ok', rv⟩ := k od
        have ok2 := ok'.setPl (i := j) rv
        rw [List.set_set, List.set_set, e] at ok2
        exact ⟨_, H0, G0, G', ok2, q.same sm⟩
/-! ### list(range(..)), tuple(range(..)) -/
theorem rgV_reps {K : PySem.W.Frag} {G : Hp} (a b : Int) : Reps K G (rgV a b) (rng a b) := by
  unfold rgV rng
  generalize List.range (b - a).toNat = l
  induction l with
  | nil => exact .nil
  | cons x l ih => exact .cons (.int _) ih
theorem rng_len (a b : Int) : (rng a b).length = (b - a).toNat := by unfold rng; rw [List.length_map, List.length_range]
theorem rg1 {g1 : EX} {σ : Sg} {H : Hp} {Q : Int → Int → Hp → Prop} {R : List D → Res D} {Q' : VK} (h : rd X.K ea W (mF X.K) (fun ρ => (srcR1 g1 ρ).bind R) σ H Q')
    (k : ∀ j H1 G1, Same G1 H1 → small62 j = true → rdX ea W (mF X.K) (R (rng 0 j)) σ H1 G1 Q' → Q 0 j H1) : tRg1 (rd X.K ea W (mB X.K) g1) σ H Q := by
  obtain ⟨ρ, G, ok, q⟩ := h
  refine ⟨ρ, G, ok, ?_⟩
  have q : rdX ea W (mF X.K) ((srcR1 g1 ρ).bind R) σ H G Q' := q
  unfold srcR1 at q
  cases r : g1 ρ with
  | bad => rw [r] at q; exact q
  | rs c => rw [r] at q; exact q
  | ok d =>
    rw [r] at q
    intro v H1 G1 x1 m1
    have q1 := rdX.extF x1 q
    simp only [ok_bind] at q1
    cases d with
    | int j =>
      have e := RepB.int m1
      subst e
      simp only at q1
      split at q1
      · rename_i hj
        exact ⟨j, rfl, k j H1 G1 x1.gh hj q1⟩
      · exact q1.elim
    | _ => exact q1.elim
theorem b_lrg1 (hc : X.calm = true) (hm : X.mg "list" = none) (hm2 : X.mg "range" = none) (ha : EB X ea W a f) (h : glB X "list" = true := by kernel_rfl) (h2 : glB X "range" = true := by kernel_rfl) (na : starEach [a] X.env = (false, eval a X.env) :: starEach [] X.env := by rfl)
    (na2 : starEach [.Call (.Name "range" p2) [a] [] pos2] X.env = (false, eval (.Call (.Name "range" p2) [a] [] pos2) X.env) :: starEach [] X.env := by rfl) : EF X ea W (.Call (.Name "list" p) [.Call (.Name "range" p2) [a] [] pos2] [] pos) (lstRg (srcR1 f)) := by
  refine PE.imp (pe_listRg hc (glB_of h).gl hm (prg_1 (glB_of h2).gl hm2 ha na) na2) fun σ H Q q => ?_
  refine rg1 q fun j H1 G1 sm hj q1 => ?_
  split at q1
  · rename_i hl
    rw [rng_len] at hl
    have := small62_of hj
    exact ⟨⟨by decide, by decide, this.1, this.2, by omega⟩, new_lst sm (rgV_reps 0 j) q1⟩
  · exact q1.elim
theorem b_trg1 (hc : X.calm = true) (hm : X.mg "tuple" = none) (hm2 : X.mg "range" = none) (ha : EB X ea W a f) (h : glB X "tuple" = true := by kernel_rfl) (h2 : glB X "range" = true := by kernel_rfl) (na : starEach [a] X.env = (false, eval a X.env) :: starEach [] X.env := by rfl)
    (na2 : starEach [.Call (.Name "range" p2) [a] [] pos2] X.env = (false, eval (.Call (.Name "range" p2) [a] [] pos2) X.env) :: starEach [] X.env := by rfl) : EF X ea W (.Call (.Name "tuple" p) [.Call (.Name "range" p2) [a] [] pos2] [] pos) (tupRg (srcR1 f)) := by
  refine PE.imp (pe_tupRgF hc (glB_of h).gl hm (prg_1 (glB_of h2).gl hm2 ha na) na2) fun σ H Q q => ?_
  refine rg1 q fun j H1 G1 sm hj q1 => ?_
  split at q1
  · rename_i hl
    rw [rng_len] at hl
    have := small62_of hj
    exact ⟨⟨by decide, by decide, this.1, this.2, by omega⟩, new_tup sm (rgV_reps 0 j) q1⟩
  · exact q1.elim
theorem rg2 {g1 g2 : EX} {σ : Sg} {H : Hp} {Q : Int → Int → Hp → Prop} {R : List D → Res D} {Q' : VK} (h : rd X.K ea W (mF X.K) (fun ρ => (srcR2 g1 g2 ρ).bind R) σ H Q')
    (k : ∀ i j H1 G1, Same G1 H1 → small62 i = true → small62 j = true → rdX ea W (mF X.K) (R (rng i j)) σ H1 G1 Q' → Q i j H1) : tRg2 (rd X.K ea W (mB X.K) g1) (rd X.K ea W (mB X.K) g2) σ H Q := by
  obtain ⟨ρ, G, ok, q⟩ := h
  refine ⟨ρ, G, ok, ?_⟩
  have q : rdX ea W (mF X.K) ((srcR2 g1 g2 ρ).bind R) σ H G Q' := q
  unfold srcR2 at q
  cases r : g1 ρ with
  | bad => rw [r] at q; exact q
  | rs c => rw [r] at q; exact q
  | ok d =>
    rw [r] at q
    intro v H1 G1 x1 m1
    have q1 := rdX.extF x1 q
    simp only [ok_bind] at q1
    refine ⟨ρ, G1, ok.ext x1, ?_⟩
    cases r2 : g2 ρ with
    | bad => rw [r2] at q1; exact q1
    | rs c => rw [r2] at q1; exact q1
    | ok d2 =>
      rw [r2] at q1
      intro u H2 G2 x2 m2
      have q2 := rdX.extF x2 q1
      simp only [ok_bind] at q2
      cases d with
      | int i =>
        cases d2 with
        | int j =>
          have e := RepB.int m1
          have e2 := RepB.int m2
          subst e
          subst e2
          simp only at q2
          split at q2
          · rename_i hj
            rw [Bool.and_eq_true] at hj
            exact ⟨i, j, rfl, rfl, k i j H2 G2 x2.gh hj.1 hj.2 q2⟩
          · exact q2.elim
        | _ => exact q2.elim
      | _ => exact q2.elim
theorem b_lrg2 (hc : X.calm = true) (hm : X.mg "list" = none) (hm2 : X.mg "range" = none) (ha : EB X ea W a f) (hb : EB X ea W b g) (h : glB X "list" = true := by kernel_rfl) (h2 : glB X "range" = true := by kernel_rfl) (na : starEach [a, b] X.env = (false, eval a X.env) :: starEach [b] X.env := by rfl)
    (nb : starEach [b] X.env = (false, eval b X.env) :: starEach [] X.env := by rfl) (hp : (backTo pos2 (starEach [b] X.env)).any (·.1) = false := by rfl)
    (na2 : starEach [.Call (.Name "range" p2) [a, b] [] pos2] X.env = (false, eval (.Call (.Name "range" p2) [a, b] [] pos2) X.env) :: starEach [] X.env := by rfl) : EF X ea W (.Call (.Name "list" p) [.Call (.Name "range" p2) [a, b] [] pos2] [] pos) (lstRg (srcR2 f g)) := by
  refine PE.imp (pe_listRg hc (glB_of h).gl hm (prg_2 (glB_of h2).gl hm2 ha hb na nb hp) na2) fun σ H Q q => ?_
  refine rg2 q fun i j H1 G1 sm hi hj q1 => ?_
  split at q1
  · rename_i hl
    rw [rng_len] at hl
    have h1 := small62_of hi
    have h2 := small62_of hj
    exact ⟨⟨h1.1, h1.2, h2.1, h2.2, by omega⟩, new_lst sm (rgV_reps i j) q1⟩
  · exact q1.elim
end
end SR

set_option linter.all false
set_option autoImplicit false
set_option Elab.async false
set_option maxRecDepth 100000
/-! SRx: more pure operations. -/
namespace SR
/-- the bits of a number -/
def bitsI (i : Int) : Nat := PySem.Builtin.Int.intBits i
/-- i ** j of a wide number -/
def dPowB : D → D → Res D
  | .int i, .int j => if decide (0 ≤ j) && decide ((bitsI i : Int) * j ≤ 134217728) then .ok (.int (i ^ j.toNat)) else .bad
  | _, _ => .bad
end SR

set_option linter.all false
set_option autoImplicit false
set_option Elab.async false
set_option maxRecDepth 100000
set_option maxHeartbeats 2000000
/-! SRt: powers of wide numbers; an ending that knows how many bits a script's numbers have. -/
namespace SR
open PySem PySem.Spec PyProof.Rows L2 TL RZ
section
variable {X : Cx}
def CPowB (i j : Int) : Prop := 0 ≤ j ∧ (Builtin.Int.intBits i : Int) * j ≤ 2 ^ 27
theorem op_powB : OpR X (binaryOp .Pow) (rI CPowB fun i j => .int (i ^ j.toNat)) := opI fun _ _ _ _ _ _ _ hc q => pow_int hc.1 hc.2 q
theorem opd_powB : OpD X (binaryOp .Pow) dPowB := by
  refine ⟨fun d e c h => ?_, _, op_powB, fun H G x y d e z Q s rx ry h q => ?_⟩
  · unfold dPowB at h; split at h <;> (try split at h) <;> cases h
  · unfold dPowB at h
    split at h
    · split at h
      · rename_i hc
        cases h
        have e1 := rx.int; have e2 := ry.int
        subst e1; subst e2
        simp only [Bool.and_eq_true, decide_eq_true_eq] at hc
        exact ⟨_, _, rfl, rfl, ⟨hc.1, hc.2⟩, told s q (.int _) rfl⟩
      · cases h
    · cases h
end
/-! {(i, j): v} -/
def tDisp1T (tk tv : TE) : TE := fun σ H Q => ∀ p, H p = none → tPairs [(tk, tv)] σ (upd H p (.dT [])) fun ps H2 => H2 p = some (.dT []) ∧ ∃ (kk : List Key) (b : Addr) (y : V), ps = [(.ref b, y)] ∧ H2 b = some (.tup (kk.map kV)) ∧ Q (.ref p) (upd H2 p (.dT [(kk, y)]))
theorem storeAll_one {prog : Program} {w : World} {A : Around} {E : Value → Shared → Prop} {s : Shared} {d : Addr} {k v : Value} {Q : PUnit → Shared → Prop} (h : wpAny (model prog w) A (dictSet d k v) (fun _ s' => Q PUnit.unit s') E s) :
    wpAny (model prog w) A (storeAll d [(k, v)]) Q E s := by
  unfold storeAll
  rw [List.forIn_cons]
  refine wpAny_bind (wpAny_bind (wpAny_mono h (fun _ s' h' => wpAny_pure ?_) fun _ _ e => e))
  simp only [List.forIn_nil]
  exact wpAny_pure h'
theorem pe_disp1T {X : Cx} {pos : Pos} {k v : Expr} {tk tv : TE} (hu : X.A.units + 1 < cLine) (h : PPs X pos [some k] [v] [(tk, tv)]) : PE X (.Dict [some k] [v] pos) (tDisp1T tk tv) := by
  refine ⟨fun pins s σ H Q I q => ?_⟩
  have hn := I.hok.fresh (Nat.le_refl s.heap.objs.size)
  have I1 := I.laid (a := s.heap.objs.size) (o := .dT []) (h' := s.heap.push { cls := .type "dict", data := .dict #[] }) (t' := s.toks) (fun _ _ q => Heap.get?_push_of_some _ q) (Nat.le_refl _) (dt_empty s.heap I.big)
  refine wpAny_Dict_any rfl rfl (fun e => nomatch e) (by show 1 ≤ 15; decide) (thn (h.run pins _ σ _ _ I1 (q _ hn)) fun ws s2 ⟨ps, H2, I2, rel, e, kk, b, y, ep, eb, q2⟩ => ?_)
  subst ep
  cases rel with
  | @cons p0 p' as bs h1 t1 =>
    cases t1
    obtain ⟨u, r⟩ := p'
    obtain ⟨ru, rv⟩ := h1
    cases (show u = Value.ref b from ru)
    refine storeAll_one ?_
    obtain ⟨z, hd, xs, rel, dd⟩ := dt_of I2.hok e
    have hz : xs.length ≤ sizeLine := by rw [← Paired.length rel]; exact z
    have hl : (putK ([] : List (List Key × V)) kk y).length ≤ sizeLine := by have := length_putK ([] : List (List Key × V)) kk y; simp at this; rw [sizeLine_eq]; omega
    refine wpAny_dictSet_heap (hsz := hz) (show X.A.units < cLine from Nat.lt_of_succ_lt hu) (key_of I2.hok eb) dd fun h' dd' hs => ⟨.ref s.heap.objs.size, _, ?_, rfl, q2⟩
    obtain ⟨q, es, ep, hq, h2, h3, h4, _, h5⟩ := dd'
    refine d_write I2 (by rw [e]; exact True.intro) hs ⟨q, hq⟩ ⟨hl, hd, _, (rel.put kk eb rv).keeps fun c ys ec => ?_, q, es, ep, hq, h2, h3, h4, h5⟩
    rw [upd_ne (ne_of ec e (fun z => nomatch z))]
    exact ec
section
variable {X : Cx} {ea : EA} {W : WX} {pos : Pos} {kx vx : Expr} {f g : EX}
theorem ef_dct1T (hu : X.A.units + 1 < cLine) (hk : EG X ea W kx f) (hv : EG X ea W vx g) : EF X ea W (.Dict [some kx] [vx] pos) (dctTE (pcons f g pnil)) := by
  have hp : PPs X pos [some kx] [vx] _ := pps_cons hk hv pps_nil
  refine PE.imp (pe_disp1T hu hp) fun σ H Q ⟨ρ, G, ok, q⟩ p hp => ?_
  have x0 : Ext H G (upd H p (.dT [])) G := Ext.newO ok.gh hp
  unfold dctTE pcons pnil at q
  refine ⟨ρ, G, ok.ext x0, ?_⟩
  cases e1 : f ρ with
  | bad => rw [e1] at q; exact q
  | rs c => rw [e1] at q; exact fun H1 G1 x1 => q H1 G1 (x0.trans x1)
  | ok d =>
    rw [e1] at q
    intro v H1 G1 x1 m1
    simp only [ok_bind] at q
    have x01 := x0.trans x1
    refine ⟨ρ, G1, ok.ext x01, ?_⟩
    cases e2 : g ρ with
    | bad => rw [e2] at q; exact q
    | rs c => rw [e2] at q; exact fun H2 G2 x2 => q H2 G2 (x01.trans x2)
    | ok e =>
      rw [e2] at q
      intro u H2 G2 x2 m2
      simp only [ok_bind] at q
      have x02 := x01.trans x2
      split at q
      · rename_i hc
        rw [Bool.and_eq_true] at hc
        have hf : fitK true d = true := by
          have := hc.1
          rw [List.all_cons, Bool.and_eq_true] at this
          exact this.1
        have m1' : Rep X.K G2 v d := Rep.same x2.gg m1
        obtain ⟨kk, b, rfl, hb, rfl⟩ := tup_key x2.gh hf m1'.b
        have h2p : H2 p = some (.dT []) := (x1.trans x2).hh _ _ upd_same
        have g2 : G2 p = none := (x1.trans x2).out p (by rw [upd_same]; trivial) (same_none ok.gh hp)
        refine ⟨h2p, kk, b, u, rfl, hb, ?_⟩
        have x3 : Ext H G (upd H2 p (.dT [(kk, u)])) G2 := by
          have gne : ∀ a o, G2 a = some o → a ≠ p := fun a o e z => by subst z; rw [g2] at e; cases e
          exact ⟨fun a o e => by rw [upd_ne (ne_of_none e hp)]; exact x02.hh a o e, x02.gg, fun a o e => by rw [upd_ne (gne a o e)]; exact x02.gh a o e, x02.out⟩
        have rt : RepT X.K G2 (putK [] kk u) (putD [] (.tup (kk.map keyD)) e) := repT_put ⟨rfl, fun i p q e _ => by simp at e⟩ m2
        exact q _ _ G2 x3 (.inr ⟨p, rfl, hp, g2, .dt upd_same rt⟩)
      · exact q.elim
end
theorem end_ofB {l : PySem.W.OpenLaw} {n k : Nat} {q : Program} {loose : List Str} {XP : (Str → Option Value) → Heap → Prop} {YP : World → Heap → Prop} {d : DefRec} {K : Params → PySem.W.Frag} {x : Str} {run : List D → Res D}
    (hn : l.most = some n) (hn2 : n ≤ sizeLine) (hdf : d.params.defaults = []) (hr : Room k callerA) (hY : ∀ (w : World) (h : Heap), YP w h → (K w.params).In h)
    (F : ∀ (w : World) (mg : Str → Option Value) (h : Heap), (K w.params).In h → h.Ns mainGlobals mg → ∃ ea, ∀ base : Heap, (K w.params).In base → base.Ns mainGlobals mg → Fn l.prog w (K w.params) mg base ea d.name (mG (K w.params)) k [x] run)
    (law : ∀ ns : List Int, ns.length ≤ n → (∀ z ∈ ns, bitsI z ≤ 1048576) → run [.scr ns] = .ok (.bl true)) :
    PySem.W.WalkO q loose XP YP l.row.toRowW d [] (fun f vs => PySem.call f vs) := by
  refine L2.walk_ofB (K := K) (CX := fun w => L2.CX l.prog w) (sp := fun w => spL (K w.params) run) (x := x) (k := k) hn hn2 hdf hr hY (fun w mg fa h KX G hmg => ?_) (fun w H a ns hl hbt hO hS => ?_) (fun w H s e s' hx => ?_)
  · obtain ⟨ea, F⟩ := F w mg h KX G
    obtain ⟨f, fd, _, hm, _, hb, oc, od, sl, lk⟩ := (F h KX G).ex
    rw [hmg] at hm
    cases hm
    refine ⟨fd, fun s u => .of_eq (hb [u] rfl), fun base KB GB => ?_⟩
    obtain ⟨f', fd', F', hm', _, hb', oc', od', sl', lk'⟩ := (F base KB GB).ex
    rw [hmg] at hm'
    cases hm'
    rw [lk] at lk'
    cases lk'
    refine F'.imp fun vs H Q E ⟨hl, G1, ds, s1, r1, q⟩ => ⟨hl, G1, ds, s1, r1, ?_⟩
    cases e : run ds with
    | ok d => rw [e] at q; exact q
    | rs c => rw [e] at q; exact q.elim
    | bad => rw [e] at q; exact q
  · refine ⟨rfl, H, [.scr ns], Same.refl _, .cons (.scr hS) .nil, ?_⟩
    rw [law ns hl hbt]
    exact fun v H' G' x m => by cases m; rfl
  · obtain ⟨_, _, _, _, _, _, _, _, _, _, _, _, z⟩ := hx
    exact z
end SR

set_option linter.all false
set_option autoImplicit false
set_option Elab.async false
set_option maxRecDepth 100000
set_option maxHeartbeats 2000000
/-! SRu: t[::-1] of a tuple. -/
namespace SR
open PySem PySem.Spec PyProof.Rows L2 TL RZ
theorem fm_all {α : Type} : ∀ l : List α, ((List.range l.length).filterMap fun k => l[k]?) = l
  | [] => rfl
  | x :: l => by
    rw [List.length_cons, List.range_succ_eq_map, List.filterMap_cons, List.filterMap_map]
    have : ((fun k => (x :: l)[k]?) ∘ Nat.succ) = fun k => l[k]? := by funext k; rfl
    rw [this, fm_all l]
    rfl
theorem fm_congr {α β : Type} {f g : α → Option β} : ∀ {l : List α}, (∀ x ∈ l, f x = g x) → l.filterMap f = l.filterMap g
  | [], _ => rfl
  | x :: l, h => by
    rw [List.filterMap_cons, List.filterMap_cons, h x List.mem_cons_self, fm_congr fun y hy => h y (List.mem_cons_of_mem _ hy)]
theorem pick_rev (xs : Array Value) : ((List.range xs.size).filterMap fun (k : Nat) => xs[(((xs.size : Int) - 1) + (k : Int) * (-1)).toNat]?).toArray = xs.toList.reverse.toArray := by
  congr 1
  have h := fm_all xs.toList.reverse
  rw [List.length_reverse, Array.length_toList] at h
  conv => rhs; rw [← h]
  refine fm_congr fun k hk => ?_
  have hk := List.mem_range.mp hk
  have e : (((xs.size : Int) - 1) + (k : Int) * (-1)).toNat = xs.size - 1 - k := by omega
  rw [e, List.getElem?_reverse (by rw [Array.length_toList]; exact hk), Array.length_toList, Array.getElem?_toList]
theorem adjust_rev (n : Nat) : Builtin.Slice.sliceAdjust none none (-1) (n : Int) = ((n : Int) - 1, -1) := by
  unfold Builtin.Slice.sliceAdjust
  have h1 : ((-1 : Int) < 0) := by omega
  simp only [h1, if_true]
theorem places_rev (n : Nat) : Builtin.Slice.slicePlaces ((n : Int) - 1) (-1) (-1) = n := by
  unfold Builtin.Slice.slicePlaces
  have h1 : ¬ ((-1 : Int) > 0) := by omega
  simp only [h1, if_false]
  split
  · have : ((n : Int) - 1 - -1 - 1) / (- -1) = (n : Int) - 1 := by
      have e : (- (-1) : Int) = 1 := rfl
      rw [e, Int.ediv_one]
      omega
    rw [this]
    omega
  · omega
section
variable {prog : Program} {w : World} {A : Around} {E : Value → Shared → Prop} {s : Shared}
theorem sliceApplied_rev {sl : Addr} {vl vu vs : Value} {n : Nat} {Q : Int × Int × Nat → Shared → Prop} (hs : s.heap.IsSliceOf sl vl vu vs) (pl : IsPart vl none) (pu : IsPart vu none) (ps : IsPart vs (some (-1)))
    (h : Q ((n : Int) - 1, -1, n) s) : wpAny (model prog w) A (Builtin.Slice.sliceApplied (.ref sl) (pure (n : Int))) Q E s := by
  obtain ⟨os, hos, hcs, hds⟩ := id hs
  unfold Builtin.Slice.sliceApplied Builtin.Slice.sliceFields
  refine wpAny_bind (wpAny_bind (wpAny_field hos hds (x := vl) rfl (wpAny_bind (wpAny_field hos hds (x := vu) rfl (wpAny_bind (wpAny_field hos hds (x := vs) rfl (wpAny_pure ?_)))))))
  refine wpAny_bind (HT.slicePart_ ps ?_)
  show wpAny _ _ (if ((-1 : Int) == 0) = true then _ else _) _ _ s
  rw [if_neg (by decide)]
  refine wpAny_bind (HT.slicePart_ pl (wpAny_bind (HT.slicePart_ pu (wpAny_bind (wpAny_pure ?_)))))
  show wpAny _ _ (match Builtin.Slice.sliceAdjust none none (-1) (n : Int) with | (lo, hi) => pure (lo, (-1 : Int), Builtin.Slice.slicePlaces lo hi (-1))) _ _ s
  rw [adjust_rev n]
  show wpAny _ _ (pure ((n : Int) - 1, (-1 : Int), Builtin.Slice.slicePlaces ((n : Int) - 1) (-1) (-1))) _ _ s
  rw [places_rev]
  exact wpAny_pure h
theorem getItem_tuple_rev {t sl : Addr} {items : Array Value} {vl vu vs : Value} {Q : Value → Shared → Prop} (ht : IsTup s.heap t items) (hs : s.heap.IsSliceOf sl vl vu vs) (pl : IsPart vl none) (pu : IsPart vu none) (ps : IsPart vs (some (-1)))
    (h : Q (.ref s.heap.objs.size) { s with heap := s.heap.push { cls := .type "tuple", data := .seq items.toList.reverse.toArray } })
    (hsz : items.size ≤ sizeLine) : wpAny (model prog w) A (getItem (.ref t) (.ref sl)) Q E s := by
  have hrev : sizeOk (.seq items.toList.reverse.toArray) := by
    show items.toList.reverse.toArray.size ≤ sizeLine
    rw [List.size_toArray, List.length_reverse, Array.length_toList]
    exact hsz
  obtain ⟨os, hos, hcs, hds⟩ := id hs
  have hTs : s.TypeIs (.ref sl) "slice" := ⟨os, hos, hcs⟩
  unfold getItem
  try with_reducible refine wpAny_holding ?_
  first | refine wpAny_bind (wpAny_pure ?_) | skip
  refine wpAny_bind (wpAny_sequenceKey ht.typeIs (by decide) ?_)
  refine wpAny_bind (wpAny_callSpecial?_slot (name := Str.ofString "__getitem__") ht.typeIs PyProof.Rows.slot_tuple_getitem
    (wpAny_call_entry PyProof.Rows.slot_tuple_getitem ht.typeIs entry_tuple_getitem ?_ (args_tuple_getitem _ _)))
  show wpAny _ _ (Builtin.Tuple.tupleItemsOf (.ref t) >>= _) _ _ s
  refine wpAny_bind (tupleItemsOf_ ht ?_)
  refine wpAny_bind (wpAny_typeOf hTs ?_)
  rw [if_pos (by decide)]
  refine wpAny_bind (sliceApplied_rev hs pl pu ps ?_)
  have hno : ¬ ((((items.size : Int) - 1) == 0 && (-1 : Int) == 1 && items.size == items.size) = true) := by
    have : ((-1 : Int) == 1) = false := by decide
    rw [this, Bool.and_false, Bool.false_and]
    exact Bool.false_ne_true
  show wpAny _ _ (if (((items.size : Int) - 1) == 0 && (-1 : Int) == 1 && items.size == items.size) = true then _ else _) _ _ s
  rw [if_neg hno, pick_rev]
  first
    | exact wpAny_bind (m := Builtin.Tuple.tupleExact _) (wpAny_newObj_type (wpAny_pure ⟨_, rfl, wpAny_pure h⟩) hrev)
    | exact wpAny_bind (m := Builtin.Tuple.tupleExact _) (wpAny_newObj_type (wpAny_bind (wpAny_pure (wpAny_pure ⟨_, rfl, wpAny_pure h⟩))) hrev)
    | exact wpAny_bind (wpAny_bind (m := Builtin.Tuple.tupleExact _) (wpAny_newObj_type (wpAny_pure (wpAny_pure ⟨_, rfl, wpAny_pure h⟩)) hrev))
    | exact wpAny_bind (wpAny_bind (m := Builtin.Tuple.tupleExact _) (wpAny_newObj_type (wpAny_pure ⟨_, rfl, wpAny_pure h⟩) hrev))
end
def tRevT (K : PySem.W.Frag) (te : TE) : TE := fun σ H Q => te σ H fun x H1 => ∃ a xs, x = .ref a ∧ SqT K H1 a xs ∧ NewT H1 xs.reverse Q
section
variable {X : Cx}
theorem pe_revT {e : Expr} {te : TE} {k : Nat} {p1 p2 p3 pos : Pos} (he : PE X e te) : PE X (.Subscript e (.Slice none none (some (.UnaryOp .USub (.Constant (.int 1) k p1) p2)) p3) pos) (tRevT X.K te) := by
  refine ⟨fun pins s σ H Q I h => ?_⟩
  refine Subscript_ (thn (he.run pins s σ H _ I h) fun v s1 ⟨x, H1, I1, r1, q1⟩ => ?_)
  obtain ⟨a, xs, ex, hx, q⟩ := q1
  subst ex
  cases r1
  have hst : PO X (some (.UnaryOp .USub (.Constant (.int 1) k p1) p2)) (tPart (tUn (rU fun i => .int (-i)) (tC (.int 1)))) := po_some (pe_un un_neg pe_int)
  refine wpAny_Slice (thn (po_none.run pins s1 σ H1 (fun o H2 => o = none ∧ H2 = H1) I1 ⟨rfl, rfl⟩) fun vl s2 ⟨l, H2, I2, pl, el, e2⟩ => ?_)
  subst el e2
  refine thn (po_none.run pins s2 σ H2 (fun o H3 => o = none ∧ H3 = H2) I2 ⟨rfl, rfl⟩) fun vu s3 ⟨u, H3, I3, pu, eu, e3⟩ => ?_
  subst eu e3
  refine thn (hst.run pins s3 σ H3 (fun o H4 => o = some (-1) ∧ H4 = H3) I3 ⟨1, rfl, -1, rfl, rfl, rfl⟩) fun vs s4 ⟨o, H4, I4, ps, eo, e4⟩ => ?_
  subst eo e4
  have I5 : Inv X pins σ H4 { s4 with heap := s4.heap.push { cls := .type "slice", data := .fields #[vl, vu, vs] } } := I4.kept (t' := s4.toks) fun b ob q => Heap.get?_push_of_some _ q
  obtain ⟨its, r, ht, hz⟩ := I5.tuple hx
  have hlen := r.length
  show wpAny (model X.prog X.w) X.A (subscriptTail e (.Slice none none (some (.UnaryOp .USub (.Constant (.int 1) k p1) p2)) p3) (.ref a) (.ref s4.heap.objs.size)) (EP X pins σ Q) X.xe { s4 with heap := s4.heap.push { cls := .type "slice", data := .fields #[vl, vu, vs] } }
  refine tail_any (ops := [.ref a, .ref s4.heap.objs.size]) ht.typeIs (PyProof.Rows.slot_tuple_getitem.lookup) ?_ (by with_unfolding_all rfl)
  refine getItem_tuple_rev ht (Heap.IsSliceOf.new _ vl vu vs) pl pu ps ?_ (by rw [List.size_toArray]; omega)
  exact laidT (s := s4) (t' := s4.toks) I5 (by rw [List.length_reverse]; exact hz) r.reverse q
end
section
variable {X : Cx} {ea : EA} {W : WX} {m : Mode} {e a b o c : Expr} {p p2 pos pos' pos2 apos cpos : Pos} {f g k : EX} {x y : Str}
theorem ef_revT {j : Nat} {p1 p2 p3 : Pos} (ha : EB X ea W a f) : EF X ea W (.Subscript a (.Slice none none (some (.UnaryOp .USub (.Constant (.int 1) j p1) p2)) p3) pos) (un dRevT f) := by
  refine PE.imp (pe_revT ha) fun σ H Q ⟨ρ, G, ok, q⟩ => ?_
  refine ⟨ρ, G, ok, q.bind fun d v H1 G1 x1 m1 q1 => ?_⟩
  have q1 := q1.extF x1
  unfold dRevT at q1
  split at q1
  · split at q1
    · obtain ⟨a, vs, rfl, sa, r⟩ := RepB.tup m1
      exact ⟨a, vs, rfl, same_sqT x1.gh sa, new_tup x1.gh r.reverse q1⟩
    · exact q1.elim
  · exact q1.elim
end
end SR

set_option linter.all false
set_option autoImplicit false
set_option Elab.async false
set_option maxRecDepth 100000
set_option maxHeartbeats 4000000
/-! SRv: a tuple times one. -/
namespace SR
open PySem PySem.Spec PyProof.Rows L2 TL RZ
theorem tuple_mul1 (l : Addr) (items : Array Value) (n : Nat) (dd : Option Addr) (sl : Array (Option Value)) (u : Tok) :
    Meets (Builtin.«tuple.__mul__» ⟨[.ref l, .int 1 u], []⟩) (fun _ R s => s.heap.get? l = some { cls := .type "tuple", dict := dd, data := .seq items n, slots := sl } ∧ R (.ok (.ret (Value.ref l))) s) :=
  .of_wp fun prog w A R s h => by
    obtain ⟨hp, g, d, tk, os⟩ := s
    obtain ⟨hl, h⟩ := h
    have f1 := AutoSeq1.idx_int
    have c0 : (decide ((1 : Int) < -(2 ^ 63)) || decide ((1 : Int) ≥ 2 ^ 63)) = false := by decide
    have c1 : (items.isEmpty || (1 : Int) == 1) = true := by simp
    wp_walk using wpAny_loadPart' hl
    repeat (first
      | (refine wpAny_ite_false (decide_eq_false (by rw [c0]; exact Bool.false_ne_true)) ?_; wp_walk using wpAny_loadPart' hl)
      | (refine wpAny_ite_true (decide_eq_true (by rw [c1])) ?_; wp_walk using wpAny_loadPart' hl))
    exact ⟨_, rfl, h⟩
/-- t * k, t a tuple -/
def dMulT : D → D → Res D
  | .tup x, .int k => if k = 1 then .ok (.tup x) else if !x.isEmpty && decide (2 ≤ k) && decide (k ≤ 1000) && decide (x.length ≤ 1000) then .ok (.tup (rep x k)) else .bad
  | _, _ => .bad
def rRepT1 (K : PySem.W.Frag) : R2 := fun x y H Q => ∃ l xs, x = .ref l ∧ y = .int 1 ∧ SqT K H l xs ∧ Q (.ref l) H
section
variable {X : Cx}
theorem op_repT1 : OpR X (binaryOp .Mult) (rRepT1 X.K) := by
  intro pins s σ H x y v u Q I rx ry h
  obtain ⟨l, xs, rfl, rfl, hT, q⟩ := h
  cases rx
  obtain ⟨t, rfl⟩ := ry
  obtain ⟨its, r, ⟨⟨cls, dd, data, sl⟩, ho, hc, n, hd⟩, hs⟩ := I.tuple hT
  simp only at hc hd
  subst hc hd
  refine wpAny_binaryOp_repeat_ref (T := "tuple") (U := "int") (by decide) ⟨_, ho, rfl⟩ (fun s' => typeIs_int s' 1 t) noFill_tuple_mul F.fills_int_mul F.slot_int_rmul repeat_tuple F.slot_int_index.lookup
    (call_meets F.slot_int_rmul (typeIs_int s 1 t) F.entry_int_rmul (F.args_int_rmul_2 _ _) (int_rmul_tuple 1 t l its.toArray n dd sl)
      ⟨ho, rfl, ⟨_, ho, rfl⟩, call_meets F.slot_tuple_mul ⟨_, ho, rfl⟩ F.entry_tuple_mul (F.args_tuple_mul_2 _ _) (tuple_mul1 l its.toArray n dd sl t) ⟨ho, ?_⟩⟩)
  exact ⟨.ref l, H, I, rfl, q⟩
theorem opd_mulT : OpD X (binaryOp .Mult) dMulT := by
  refine ⟨fun d e c h => ?_, _, op_repT1.or op_repF, fun H G x y d e z Q s rx ry h q => ?_⟩
  · unfold dMulT at h; split at h <;> (try split at h) <;> (try split at h) <;> cases h
  · unfold dMulT at h
    split at h
    · split at h
      · rename_i hk
        cases h
        have e2 := ry.int
        subst e2; subst hk
        have rx' := rx
        obtain ⟨a, vs, rfl, sa, ra⟩ := rx.tup
        exact .inl ⟨a, vs, rfl, rfl, same_sqT s sa, told s q (rx'.rep rfl) rfl⟩
      · split at h
        · rename_i hc
          cases h
          obtain ⟨a, vs, rfl, sa, ra⟩ := rx.tup
          have e2 := ry.int
          subst e2
          simp only [Bool.and_eq_true, decide_eq_true_eq, Bool.not_eq_true', List.isEmpty_eq_false_iff] at hc
          refine .inr ⟨a, _, vs, rfl, rfl, same_sqT s sa, fun e => hc.1.1.1 ?_, hc.1.1.2, hc.1.2, by rw [ra.1]; exact hc.2, new_tup s (ra.repl _) q⟩
          subst e
          exact List.length_eq_zero_iff.mp ra.1.symm
        · cases h
    · cases h
end
end SR

set_option linter.all false
set_option autoImplicit false
set_option Elab.async false
set_option maxRecDepth 100000
set_option maxHeartbeats 2000000
/-! SRw: min of a list. -/
namespace SR
open PySem PySem.Spec PyProof.Rows L2 TL RZ
theorem minL_fold : ∀ (xs : List D) (x : D), minL x xs = xs.foldl (fun a y => if D.ltv y a then y else a) x
  | [], _ => rfl
  | y :: xs, x => by rw [minL, minL_fold xs, List.foldl_cons]
theorem fold_py : ∀ (xs : List D) (x : D), (∀ a ∈ x :: xs, ∀ b ∈ x :: xs, D.alk a b = true) → (∀ a ∈ x :: xs, a.lay = true) →
    xs.foldl (fun a y => if PySem.W.dataLt (toPy y) (toPy a) then y else a) x = minL x xs
  | [], _, _, _ => rfl
  | y :: xs, x, h1, h2 => by
    rw [List.foldl_cons, minL]
    have e : PySem.W.dataLt (toPy y) (toPy x) = D.ltv y x := ltv_py y x (h1 y (by simp) x (by simp)) (h2 y (by simp)) (h2 x (by simp))
    rw [e]
    have hm : (if D.ltv y x then y else x) ∈ x :: y :: xs := by split <;> simp
    have hsub : ∀ a ∈ (if D.ltv y x then y else x) :: xs, a ∈ x :: y :: xs := fun a ha => by
      rcases List.mem_cons.mp ha with rfl | h
      · exact hm
      · exact List.mem_cons_of_mem _ (List.mem_cons_of_mem _ h)
    exact fold_py xs _ (fun a ha b hb => h1 a (hsub a ha) b (hsub b hb)) fun a ha => h2 a (hsub a ha)
section
variable {prog : Program} {w : World} {A : Around} {E : Value → Shared → Prop} {s : Shared}
/-- min of a list, by the place of the least -/
theorem min_list_at {l : Addr} {vs : Array Value} {x : PyData} {xs : List PyData} {as : List Addr} {Q : Value → Shared → Prop} (hh : A.handled = none) (hl : s.heap.IsList l vs) (hr : ReadsAll s.heap vs.toList (x :: xs) as) (ha : PySem.W.AlikeAll (x :: xs)) (hu : A.units + 1 + PyData.depthAll (x :: xs) < cLine)
    (h : ∀ v h' tk, vs[argBest (fun i j => PySem.W.dataLt ((x :: xs).getD i .none) ((x :: xs).getD j .none)) xs.length]? = some v → (∀ b o, s.heap.get? b = some o → h'.get? b = some o) → Q v { s with heap := h', toks := tk }) :
    wpAny (model prog w) A (call (.builtin "min") [.ref l]) Q E s := by
  have hn : vs.size = xs.length + 1 := PySem.W.readsAll_len hr
  refine call_min_walkH (PySem.W.iter_listW (A := A.in1) hh hl fun s₂ e W st hfp hw hk => ?_)
  refine ⟨_, _, _, _, _, _, _, s.heap, _, rfl, W, st, hfp, by omega, hw, hk, PySem.W.cmpIn_lt (A := A.in1) hr ha (by show A.units + 1 + _ < _; exact hu), fun v s' hP m => ?_⟩
  obtain ⟨h', tk, rfl, hk'⟩ := PySem.W.moved_old e rfl m
  have e1 : vs.size - 1 = xs.length := by omega
  rw [e1] at hP
  exact h v h' tk hP hk'
end
def rMinD (K : PySem.W.Frag) : List V → Hp → VK → Prop := fun xs H Q => ∃ (a : Addr) (vs : List V) (x : D) (ds : List D) (G : Hp), xs = [.ref a] ∧ SqL K H a vs ∧ Same G H ∧ Reps K G vs (x :: ds) ∧ SortOk (x :: ds) ∧ ∀ (i : Nat) (v : V), vs[i]? = some v → (x :: ds)[i]? = some (minL x ds) → Q v H
theorem getD_map_py (l : List D) (i : Nat) : (l.map toPy).getD i .none = toPy (l.getD i .non) := by
  rw [List.getD_eq_getElem?_getD, List.getD_eq_getElem?_getD, List.getElem?_map]
  cases l[i]? with
  | some d => rfl
  | none => simp [toPy]
theorem depth_py : ∀ l : List D, (∀ d ∈ l, d.dep ≤ 8) → PyData.depthAll (l.map toPy) ≤ 8
  | [], _ => by simp [PyData.depthAll]
  | d :: l, h => by
    have h1 := toPy_dep d
    have h2 := h d List.mem_cons_self
    have h3 := depth_py l fun x hx => h x (List.mem_cons_of_mem _ hx)
    rw [List.map_cons]
    simp only [PyData.depthAll]
    omega
section
variable {X : Cx} {pins : List (Addr × Obj)} {σ : Sg} {H : Hp} {s : Shared}
theorem all_reads {G : Hp} (I : Inv X pins σ H s) (sm : Same G H) : ∀ {vs : List V} {ds : List D} {us : List Value}, Reps X.K G vs ds → (∀ d ∈ ds, d.lay = true) → Vals vs us → ∃ as, ReadsAll s.heap us (ds.map toPy) as
  | _, ds, _, r, _, .nil => by
    cases ds with
    | nil => exact ⟨_, .nil⟩
    | cons d ds => exact absurd r.1 (by simp)
  | v :: vs, ds, _, r, hl, .cons h t => by
    cases ds with
    | nil => exact absurd r.1 (by simp)
    | cons d ds =>
      obtain ⟨v', ws, e, r1, r2⟩ := r.consOf
      cases e
      obtain ⟨as, h1⟩ := Dp.reads I _ _ _ (RepB.dp sm (hl d List.mem_cons_self) (.inl r1)) h
      obtain ⟨bs, h2⟩ := all_reads I sm r2 (fun d hd => hl d (List.mem_cons_of_mem _ hd)) t
      exact ⟨_, .cons h1 h2⟩
end
theorem call_minD {X : Cx} (hc : X.calm = true) (hu : X.A.units + 64 < cLine) : CallR X (.builtin "min") (rMinD X.K) := by
  intro pins s σ H xs us Q I r q
  obtain ⟨a, vs, x, ds, G, ex, hs, sm, rr, ok, q⟩ := q
  subst ex
  obtain ⟨its, rv, hl, hz⟩ := I.list hs
  rw [Vals.ref1 r]
  obtain ⟨as, ra⟩ := all_reads I sm rr ok.lay rv
  have hd := depth_py (x :: ds) ok.dep
  have hal : PySem.W.AlikeAll ((x :: ds).map toPy) := ⟨alike_of ok, fun d hd e => by
    obtain ⟨y, hy, rfl⟩ := List.mem_map.mp hd
    rcases ok.kind with k | k
    · have := k y hy
      cases y <;> simp [D.neT] at this <;> simp [toPy] at e
    · have := k y hy
      cases y <;> simp [D.noT] at this <;> simp [toPy] at e⟩
  rw [List.map_cons] at ra hd hal
  refine min_list_at (I.ok.hd hc) hl.isList (by simpa using ra) hal (by omega) fun v h' tk hv hk => ?_
  have hf := PySem.W.argBest_fold (fun a y => PySem.W.dataLt (toPy a) (toPy y)) D.non x ds ds.length (Nat.le_refl _)
  have eb : (fun i j => PySem.W.dataLt ((toPy x :: ds.map toPy).getD i .none) ((toPy x :: ds.map toPy).getD j .none)) = fun i j => PySem.W.dataLt (toPy ((x :: ds).getD i .non)) (toPy ((x :: ds).getD j .non)) := by
    funext i j
    rw [← List.map_cons, getD_map_py, getD_map_py]
  rw [eb, List.length_map] at hv
  generalize argBest (fun i j => PySem.W.dataLt (toPy ((x :: ds).getD i .non)) (toPy ((x :: ds).getD j .non))) ds.length = k at hv hf
  have hk2 : k < (x :: ds).length := by rw [List.length_cons]; omega
  have e2 := hf.2
  rw [List.take_length, fold_py ds x ok.alk ok.lay, List.getD_eq_getElem?_getD, List.getElem?_eq_getElem hk2] at e2
  have e3 : (x :: ds)[k]? = some (minL x ds) := by rw [List.getElem?_eq_getElem hk2]; exact congrArg some e2
  have hkv : k < vs.length := by rw [rr.1]; exact hk2
  obtain ⟨u, hu1, hu2⟩ := rv.get (i := k) (x := vs[k]) (List.getElem?_eq_getElem hkv)
  have : v = u := by
    have h1 : its[k]? = some v := by simpa using hv
    rw [hu1] at h1
    exact (Option.some.inj h1).symm
  subst this
  exact ⟨vs[k], H, I.kept hk, hu2, q k _ (List.getElem?_eq_getElem hkv) e3⟩
section
variable {X : Cx} {ea : EA} {W : WX} {m : Mode} {e a b o c : Expr} {p p2 pos pos' pos2 apos cpos : Pos} {f g k : EX} {x y : Str}
/-- min(xs) -/
theorem g_minL (hc : X.calm = true) (hu : X.A.units + 64 < cLine) (hm : X.mg "min" = none) (ha : EB X ea W a f) (h : glB X "min" = true := by kernel_rfl) (he : starEach (a :: []) X.env = (false, eval a X.env) :: starEach [] X.env := by rfl) :
    EG X ea W (.Call (.Name "min" p) [a] [] pos) (un dMinL f) := by
  refine PE.imp (pe_callB (call_minD hc hu) (glB_of h).gl hm boot_min (pa_cons ha pa_nil he) (glB_of h).d2 (glB_of h).d1 he rfl) fun σ H Q ⟨ρ, G, ok, q⟩ => ?_
  refine ⟨ρ, G, ok, q.bind fun d v H1 G1 x1 m1 q1 => ?_⟩
  have q2 := q1.extG x1
  unfold dMinL at q2
  split at q2
  · split at q2
    · rename_i z xs hk
      obtain ⟨pp, vs, rfl, hp, r⟩ := RepB.lst x1.gh m1
      exact ⟨pp, vs, z, xs, G1, rfl, .inl (.inl hp), x1.gh, r, sortOk_of hk, fun i w h1 h2 => q2 w H1 G1 (.refl x1.gh) (r.2 i _ _ h1 h2)⟩
    · exact q2.elim
  · exact q2.elim
end
end SR

set_option linter.all false
set_option autoImplicit false
/-! SS0: more pure operations: sorted values and items of an own dict. -/
namespace SR
/-- an entry as a tuple -/
def pairD (q : D × D) : D := .tup [q.1, q.2]
/-- sorted(x.values()) -/
def sortVals (i : Nat) : EX := fun ρ => match ρ[i]? with
  | some (.own (.dct false kvs)) => if sortOk (kvs.map (·.2)) then .ok (.lst ((kvs.map (·.2)).mergeSort D.leV)) else .bad
  | _ => .bad
/-- sorted(x.items()), the keys tuples -/
def sortItems (i : Nat) : EX := fun ρ => match ρ[i]? with
  | some (.own (.dct true kvs)) => if sortOk (kvs.map pairD) then .ok (.lst ((kvs.map pairD).mergeSort D.leV)) else .bad
  | _ => .bad
/-- k not in a dict of the top -/
@[simp] def dKNotIn (ps : List (Txt × D)) (k : D) : Res D := match k with
  | .str z => .ok (.bl (!(lookT ps z).isSome))
  | _ => .bad
/-- len(set(x)) of truths, numbers or texts -/
def dLenSet : D → Res D
  | .lst xs => if kind1 xs && decide (xs.length < 1000) then .ok (.int ((xs.foldr (insD D.lt1) []).length : Nat)) else .bad
  | _ => .bad
/-- x.find(sign, k) -/
def dFind : D → D → D → Res D
  | .str x, .str [c], .int k => if 0 ≤ k ∧ x.length ≤ 1000000 then .ok (.int (match signIx c (x.drop k.toNat) with | some i => k + (i : Nat) | none => -1)) else .bad
  | _, _, _ => .bad
/-- pieces of a text, between a sign -/
def splitC (c : Nat) : Txt → List Txt
  | [] => [[]]
  | d :: r => if d = c then [] :: splitC c r else match splitC c r with
    | [] => [[d]]
    | p :: ps => (d :: p) :: ps
/-- x.split(sign) -/
def dSplit : D → D → Res D
  | .str x, .str [c] => if x.length ≤ 1000000 then .ok (.lst ((splitC c x).map .str)) else .bad
  | _, _ => .bad
/-- sum(xs) of numbers -/
def sumI : List D → Option Int
  | [] => some 0
  | .int i :: r => (sumI r).map (i + ·)
  | _ :: _ => none
def dSum : D → Res D
  | .lst xs => match sumI xs with
    | some i => .ok (.int i)
    | none => .bad
  | _ => .bad
/-- enumerate of a list or tuple, each place with its thing -/
def enumD (xs : List D) : List D := xs.zipIdx.map fun p => .tup [.int (p.2 : Nat), p.1]
@[simp] def srcEnum (a : EX) : AX := fun ρ => (a ρ).bind fun x => match x with
  | .lst xs => .ok (enumD xs)
  | .tup xs => .ok (enumD xs)
  | _ => .bad
/-- x, y, .. = {}, .. -/
@[simp] def sParO (is : List Nat) (f : EX) (r : AX) : SX := fun ρ => match f ρ with
  | .ok (.dct t kvs) => match r ρ with
    | .ok xs => if xs.length + 1 = is.length then .nx ((is.tail.zip xs).foldl (fun ρ p => ρ.set p.1 (.pl p.2)) (ρ.set (is.headD 0) (.own (.dct t kvs)))) else .bad
    | .rs c => .rs c ρ
    | .bad => .bad
  | .ok _ => .bad
  | .rs c => .rs c ρ
  | .bad => .bad
/-- min of a list or tuple -/
def dMinS : D → Res D
  | .tup (x :: r) => if sortOk (x :: r) then .ok (minL x r) else .bad
  | d => dMinL d
/-- sorted(x), a tuple too -/
def dSortS : D → Res D
  | .tup xs => if sortOk xs then .ok (.lst (xs.mergeSort D.leV)) else .bad
  | _ => .bad
/-- a tuple of numbers -/
@[simp] def isTuI : D → Bool
  | .tup xs => xs.all D.isIn
  | _ => false
/-- the pairs of a row -/
def pairsOf : List D → Option (List (D × D))
  | [] => some []
  | .tup [k, v] :: r => (pairsOf r).map ((k, v) :: ·)
  | _ :: _ => none
/-- dict(xs), xs a row of pairs -/
def dPairs (t : Bool) : D → Res D
  | .lst xs => match pairsOf xs with
    | some ps => if (ps.all fun p => fitK t p.1) && decide (ps.length ≤ 1000) then .ok (.dct t (putAll ps)) else .bad
    | none => .bad
  | .tup xs => match pairsOf xs with
    | some ps => if !t && (ps.all fun p => fitK t p.1) && decide (ps.length ≤ 1000) then .ok (.dct t (putAll ps)) else .bad
    | none => .bad
  | _ => .bad
end SR

set_option linter.all false
set_option autoImplicit false
set_option Elab.async false
set_option maxRecDepth 100000
set_option maxHeartbeats 2000000
/-! SS1: sorted(d.values()), sorted(d.items()) of a dict of one's own. -/
namespace SR
open PySem PySem.Spec PyProof.Rows L2 TL RZ
section
variable {X : Cx} {pins : List (Addr × Obj)} {σ : Sg} {H : Hp} {s : Shared}
/-- the sort of a list just laid at the heap's end -/
theorem sort_tail {h' : Heap} {tk : Nat} {G : Hp} {vs : List V} {ds : List D} {us : List Value} {Q : VK} (hu : X.A.units + 64 < cLine) (I1 : Inv X pins σ H { s with heap := h', toks := tk })
    (rv : Vals vs us) (sm : Same G H) (rr : Reps X.K G vs ds) (ok : SortOk ds) (q : ∀ p, H p = none → Q (.ref p) (upd H p (.lst ((sortP (vs.zip ds)).map (·.1))))) :
    wpAny (model X.prog X.w) X.A.in1 (call (.builtin "list.sort") [.ref h'.objs.size]) (fun _ s' => EP X pins σ Q (.ref h'.objs.size) s') X.xe { s with heap := h'.push { cls := .type "list", data := .seq us.toArray }, toks := tk } := by
  have hoL : (h'.push (seqObj "list" us.toArray 0)).get? h'.objs.size = some (seqObj "list" us.toArray 0) := Heap.get?_push_size _ rfl
  have hsn := zip_snd rr
  have hln : (vs.zip ds).length ≤ sizeLine := by rw [List.length_zip, rr.1, Nat.min_self]; exact Nat.le_trans ok.len (by rw [sizeLine_eq]; decide)
  have er := each_reads I1 sm rr ok.lay rv
  have er2 : PySem.W.EachIs (fun u (b : V × D) => ∃ as, Reads (h'.push (seqObj "list" us.toArray 0)) u (toPy b.2) as ∧ h'.objs.size ∉ as) us (vs.zip ds) := er.mono fun u b ⟨as, r⟩ =>
    ⟨as, PyProof.Rows.Reads.keeps (fun b o e => Heap.get?_push_of_some _ e) r, fun z => by
      obtain ⟨o, e⟩ := PyProof.On.reads_mem_get r _ z
      exact absurd (Heap.lt_size e) (Nat.lt_irrefl _)⟩
  refine PySem.W.list_sort_data (s := { s with heap := h'.push (seqObj "list" us.toArray 0), toks := tk }) (β := V × D) (R := fun u b => RelV b.1 u) (enc := fun b => toPy b.2) hoL (each_rel rr rv) er2 (by rw [hsn]; exact alike_of ok) (by rw [hsn]; exact sortable_of ok) hln
    (fun b hb => by have := dep_bound (vs := vs) ok (X.A.units + 1) (by omega) b hb; show X.A.units + 1 + 1 + _ < cLine; omega) fun out ol eo => ?_
  obtain ⟨c, hcq⟩ := PyProof.Rows.sortedHeap_at (vs := us) (out := out.toArray) hoL
  have hv := vals_each eo
  have hlen : ((sortP (vs.zip ds)).map (·.1)).length ≤ sizeLine := by
    unfold sortP
    rw [List.length_map, List.length_mergeSort]
    exact hln
  refine ⟨.ref h'.objs.size, _, I1.laid (a := h'.objs.size) (o := .lst ((sortP (vs.zip ds)).map (·.1))) (t' := tk) (fun b u e => ?_) (Nat.le_refl _) ⟨hlen, out, c, hv, hcq⟩, rfl, q _ (I1.hok.fresh (Nat.le_refl _))⟩
  have hb : b < h'.objs.size := Heap.lt_size e
  rw [PyProof.Rows.sortedHeap_old (Nat.ne_of_lt hb) (by rw [size_push']; exact Nat.lt_succ_of_lt hb)]
  exact Heap.get?_push_of_some _ e
/-! ### values -/
def valuesO (p d : Addr) : HO := .ext fun h => h.IsValuesView p d
theorem valuesO_ok {P : Program} {w : World} {h : Heap} {p d : Addr} (e : h.get? p = some { cls := .type "dict_values", data := .fields #[.ref d] }) : ObjOk P w H h p (valuesO p d) :=
  ⟨⟨_, e, rfl, rfl⟩, ⟨_, e⟩, fun h1 h2 x k => let ⟨o, ho, r⟩ := x; ⟨o, k o ho, r⟩⟩
def rVals : V → List V → Hp → VK → Prop := fun x xs H Q => ∃ (a : Addr) (kvs : List (Key × V)), x = .ref a ∧ xs = [] ∧ H a = some (.dK kvs) ∧ ∀ p, H p = none → Q (.ref p) (upd H p (valuesO p a))
theorem mt_vals : MtR X "dict.values" rVals := by
  intro pins s σ H x xs v us Q I rx rxs h
  obtain ⟨a, kvs, rfl, rfl, ha, q⟩ := h
  cases rx
  cases rxs
  obtain ⟨_, hsys, vs, rel, dof⟩ := dk_of I.hok ha
  obtain ⟨ep, dat⟩ := dof.dictAt
  obtain ⟨ob, es, ho, ex, hdat, hko, hpr, hnd⟩ := dat
  refine call_meetsIn F.slot_dict_values ⟨ob, ho, ex.1⟩ F.entry_dict_values (F.args_dict_values_1 _) (meets_dict_values (mixKind X.prog X.w) a hsys) ⟨⟨vs, dof⟩, ?_⟩
  have hf : H s.heap.objs.size = none := I.hok.fresh (Nat.le_refl _)
  exact ⟨.ref s.heap.objs.size, upd H s.heap.objs.size (valuesO s.heap.objs.size a), I.laid (t' := s.toks) (fun b u e => Heap.get?_push_of_some _ e) (Nat.le_refl _) (valuesO_ok (Heap.get?_push_size _ rfl)), rfl, q _ hf⟩
theorem vals_kv : ∀ {kvs : List (Key × V)} {vs : List (Key × Value)}, KV kvs vs → Vals (kvs.map (·.2)) (vs.map (·.2))
  | _, _, .nil => .nil
  | _, _, .cons h t => .cons h.2 (vals_kv t)
def rSortVals (K : PySem.W.Frag) : List V → Hp → VK → Prop := fun xs H Q => ∃ (p a : Addr) (kvs : List (Key × V)) (ds : List D) (G : Hp), xs = [.ref p] ∧ H p = some (valuesO p a) ∧ H a = some (.dK kvs) ∧ Same G H ∧ Reps K G (kvs.map (·.2)) ds ∧ SortOk ds ∧
  ∀ l, H l = none → Q (.ref l) (upd H l (.lst ((sortP ((kvs.map (·.2)).zip ds)).map (·.1))))
theorem cr_sortVals (hc : X.calm = true) (hu : X.A.units + 64 < cLine) : CallR X (.builtin "sorted") (rSortVals X.K) := by
  intro pins s σ H xs us Q I r q
  obtain ⟨p, a, kvs, ds, G, ex, hp, hd, sm, rr, ok, q⟩ := q
  subst ex
  rw [Vals.ref1 r]
  have view : s.heap.IsValuesView p a := (show ObjOk X.prog X.w H s.heap p (valuesO p a) from I.hok p _ hp).1
  obtain ⟨z, lo, vs, rel, dd⟩ := dk_of I.hok hd
  obtain ⟨ep, hat⟩ := dd.dictAt
  have hkl : kvs.length = vs.length := rel.length
  have h16 : vs.length ≤ sizeLine := by rw [← hkl]; exact z
  refine Calls.call_function_entry PyProof.Rows.kind_sorted PyProof.Rows.plain_sorted PyProof.Rows.entry_sorted (PyProof.Rows.args_sorted1 _) ?_
  unfold Builtin.«sorted»
  refine wpAny_bind (m := checkCount "sorted" 1 1 _) (wpAny_pure (wpAny_bind (PySem.W.kdu_collect (A := X.A.in1) (PySem.W.kdl_values (knd := mixKind X.prog X.w) (kvs := vs) (ep := ep)) (I.ok.hd hc) ⟨view, hat⟩ h16 fun h' tk acc hk hacc => ?_)))
  have hal : acc.toList.length = vs.length := by rw [Array.length_toList, hacc.1]
  have ev : acc.toList = vs.map (·.2) := PySem.W.kdl_vals_eq acc.toList hal fun j v e => hacc.2 j v (by rw [← Array.getElem?_toList]; exact e)
  have rv : Vals (kvs.map (·.2)) acc.toList := by rw [ev]; exact vals_kv rel
  have I1 : Inv X pins σ H { s with heap := h', toks := tk } := I.kept hk
  refine wpAny_bind (wpAny_newList ?_ (by rw [hal]; exact h16))
  refine wpAny_bind (wpAny_holding (wpAny_mono (sort_tail (s := s) hu I1 rv sm rr ok q) (fun _ s' x => ?_) fun _ _ e => e))
  exact wpAny_pure ⟨_, rfl, x⟩
end
section
variable {X : Cx} {ea : EA} {W : WX} {m : Mode} {e a b o c : Expr} {p p2 pos pos' pos2 apos cpos : Pos} {f g k : EX} {x y : Str}
theorem b_sortVals (i : Nat) (hc : X.calm = true) (hu : X.A.units + 64 < cLine) (hm : X.mg "sorted" = none) (hx : okV X i x = true := by kernel_rfl) (h : glB X "sorted" = true := by kernel_rfl)
    (hbase : attributeBase (.Name x p2) "values" X.env (eval (.Name x p2) X.env) = eval (.Name x p2) X.env := by rfl) (hline : (apos.endLine == cpos.line) = true := by rfl)
    (he : starEach (.Call (.Attribute (.Name x p2) "values" apos) [] [] cpos :: []) X.env = (false, eval (.Call (.Attribute (.Name x p2) "values" apos) [] [] cpos) X.env) :: starEach [] X.env := by rfl) :
    EF X ea W (.Call (.Name "sorted" p) [.Call (.Attribute (.Name x p2) "values" apos) [] [] cpos] [] pos) (sortVals i) := by
  have o := okV_of hx
  refine PE.imp (pe_callB (cr_sortVals hc hu) (glB_of h).gl hm boot_sorted (pa_cons (pe_bm0 F.plainAttrs_dict F.slot_dict_values F.type_dict_values mt_vals (pe_var o.at_ o.vis o.d1 o.d2) hbase hline) pa_nil he) (glB_of h).d2 (glB_of h).d1 he rfl) fun σ H Q ⟨ρ, G, ok, q⟩ => ?_
  unfold rdX sortVals at q
  cases r : ρ[i]? with
  | none => rw [r] at q; exact q.elim
  | some s =>
    rw [r] at q
    cases s with
    | dead => exact q.elim
    | pl d => exact q.elim
    | own d =>
      obtain ⟨a, hs, g, cc⟩ := ok.sl i _ r
      cases cc with
      | lst _ _ => exact q.elim
      | dt _ _ => exact q.elim
      | @dk kvs ds ha rk =>
        simp only at q
        split at q
        · rename_i heq
          split at heq
          · rename_i hk
            cases heq
            refine ⟨_, hs, .inr (.inr (.inl ⟨rfl, .inl ⟨kvs, ha⟩⟩)), a, kvs, rfl, rfl, ha, fun pv hpv => ?_⟩
            have x0 : Ext H G (upd H pv (valuesO pv a)) G := Ext.newO ok.gh hpv
            have rr : Reps X.K G (kvs.map (·.2)) (ds.map (·.2)) := ⟨by rw [List.length_map, List.length_map]; exact rk.1, fun j v d e1 e2 => by
              rw [List.getElem?_map] at e1 e2
              obtain ⟨u, hu1, rfl⟩ := Option.map_eq_some_iff.mp e1
              obtain ⟨w, hw1, rfl⟩ := Option.map_eq_some_iff.mp e2
              exact (rk.2 j u w hu1 hw1).2⟩
            refine ⟨pv, a, kvs, ds.map (·.2), G, rfl, upd_same, by rw [upd_ne (ne_of_none ha hpv)]; exact ha, x0.gh, rr, sortOk_of hk, fun l hl => ?_⟩
            have x1 := x0.trans (Ext.newO (o := .lst ((sortP ((kvs.map (·.2)).zip (ds.map (·.2)))).map (·.1))) x0.gh hl)
            exact q _ _ _ x1 (.inr ⟨l, rfl, same_none x0.hh hl, same_none x0.gh hl, .lst upd_same (sortP_reps rr (sortOk_of hk))⟩)
          · cases heq
        · rename_i heq
          split at heq <;> cases heq
        · exact q.elim
end
end SR

set_option linter.all false
set_option autoImplicit false
set_option Elab.async false
set_option maxRecDepth 100000
set_option maxHeartbeats 2000000
/-! SS3: in, not in, [] of a dict of the top. -/
namespace SR
open PySem PySem.Spec PyProof.Rows L2 TL RZ
section
variable {X : Cx} {ea : EA} {W : WX} {e a b c : Expr} {p pos : Pos} {f : EX} {x : Str} {ps : List (SR.Txt × D)}
def rKIn (K : PySem.W.Frag) (w : World) (neg : Bool) : R2 := fun x y H Q => ∃ p ps k, y = .ref p ∧ KMap K w p ps ∧ x = .str k ∧ Q (.bl (neg != (lookT ps (tl k)).isSome)) H
theorem op_kin : OpR X (compareOp .In) (rKIn X.K X.w false) := by
  intro pins s σ H x y v u Q I rx ry h
  obtain ⟨pp, ps, k, rfl, km, rfl, q⟩ := h
  obtain rfl : u = Value.ref pp := ry
  obtain ⟨t, rfl⟩ := rx
  obtain ⟨es, n, hl, hk⟩ := km.ob
  have hm := PySem.W.mapOf_K (prog := X.prog) (w := X.w) I.kIn hl hk
  refine wpAny_in_of (strKind_is X.prog X.w k t) km.low hm ?_
  rcases km.at_ k with ⟨l1, l2⟩ | ⟨d, v, u, l1, l2, ru, rv⟩
  · rw [PySem.W.find_K hl l2]
    rw [l1] at q
    exact ⟨(.bl false), H, I.tok _, rfl, q⟩
  · rw [PySem.W.find_K hl l2]
    rw [l1] at q
    exact ⟨(.bl true), H, I.tok _, rfl, q⟩
theorem op_knotIn : OpR X (compareOp .NotIn) (rKIn X.K X.w true) := by
  intro pins s σ H x y v u Q I rx ry h
  obtain ⟨pp, ps, k, rfl, km, rfl, q⟩ := h
  obtain rfl : u = Value.ref pp := ry
  obtain ⟨t, rfl⟩ := rx
  obtain ⟨es, n, hl, hk⟩ := km.ob
  have hm := PySem.W.mapOf_K (prog := X.prog) (w := X.w) I.kIn hl hk
  refine wpAny_notIn_of (strKind_is X.prog X.w k t) km.low hm ?_
  rcases km.at_ k with ⟨l1, l2⟩ | ⟨d, v, u, l1, l2, ru, rv⟩
  · rw [PySem.W.find_K hl l2]
    rw [l1] at q
    exact ⟨(.bl true), H, I.tok _, rfl, q⟩
  · rw [PySem.W.find_K hl l2]
    rw [l1] at q
    exact ⟨(.bl false), H, I.tok _, rfl, q⟩
theorem kin_rd {pp : Addr} (km : KMap X.K X.w pp ps) {σ : Sg} {H : Hp} {Q : VK} (h : rd X.K ea W (mF X.K) (un (dKIn ps) f) σ H Q) : tOp (rKIn X.K X.w false) (rd X.K ea W (mB X.K) f) (tC (.ref pp)) σ H Q := by
  obtain ⟨ρ, G, ok, q⟩ := h
  refine ⟨ρ, G, ok, q.bind fun d v H1 G1 x1 m1 q1 => ?_⟩
  have q2 := q1.extF x1
  unfold dKIn at q2
  split at q2
  · obtain ⟨k, rfl, rfl⟩ := RepB.str m1
    refine ⟨pp, ps, k, rfl, km, rfl, ?_⟩
    rw [Bool.false_bne]
    exact told x1.gh q2 (.bl _) rfl
  · exact q2.elim
theorem knotIn_rd {pp : Addr} (km : KMap X.K X.w pp ps) {σ : Sg} {H : Hp} {Q : VK} (h : rd X.K ea W (mF X.K) (un (dKNotIn ps) f) σ H Q) : tOp (rKIn X.K X.w true) (rd X.K ea W (mB X.K) f) (tC (.ref pp)) σ H Q := by
  obtain ⟨ρ, G, ok, q⟩ := h
  refine ⟨ρ, G, ok, q.bind fun d v H1 G1 x1 m1 q1 => ?_⟩
  have q2 := q1.extF x1
  unfold dKNotIn at q2
  split at q2
  · obtain ⟨k, rfl, rfl⟩ := RepB.str m1
    refine ⟨pp, ps, k, rfl, km, rfl, ?_⟩
    rw [Bool.true_bne]
    exact told x1.gh q2 (.bl _) rfl
  · exact q2.elim
theorem k_in (T : KTop X.K X.w X.mg x ps) (ha : EB X ea W a f) (h : glB X x = true := by kernel_rfl) (hm : behindInMarks .In (.Name x p) = false := by rfl) : EF X ea W (.Compare a [.In] [.Name x p] pos) (un (dKIn ps) f) := by
  obtain ⟨pp, hg, km⟩ := T
  exact PE.imp (pe_cmpR op_kin ha (pe_glob (v := V.ref pp) (glB_of h).gl hg rfl (glB_of h).d1) hm) fun σ H Q q => kin_rd km q
theorem k_notIn (T : KTop X.K X.w X.mg x ps) (ha : EB X ea W a f) (h : glB X x = true := by kernel_rfl) (hm : behindInMarks .NotIn (.Name x p) = false := by rfl) : EF X ea W (.Compare a [.NotIn] [.Name x p] pos) (un (dKNotIn ps) f) := by
  obtain ⟨pp, hg, km⟩ := T
  exact PE.imp (pe_cmpR op_knotIn ha (pe_glob (v := V.ref pp) (glB_of h).gl hg rfl (glB_of h).d1) hm) fun σ H Q q => knotIn_rd km q
theorem tstB_rd {f : EX} {ρ : SR.Env} {σ : Sg} {H G : Hp} {Q : Bool → Hp → Prop} (q : rdTX ea W (tstB f ρ) σ H G Q) : rdX ea W (mF X.K) (f ρ) σ H G (fun x H' => ∃ k, x = .bl k ∧ Q k H') := by
  refine rdX.bindT q fun d v H1 G1 x1 m1 q1 => ?_
  have q2 := q1.ext x1
  cases d with
  | bl k =>
    have e1 := (RepF.b m1).bl
    exact ⟨k, e1, q2 H1 G1 (.refl x1.gh)⟩
  | _ => exact q2.elim
theorem kt_in (T : KTop X.K X.w X.mg x ps) (ha : EB X ea W a f) (h : glB X x = true := by kernel_rfl) (hm : behindInMarks .In (.Name x p) = false := by rfl) : ET X ea W (.Compare a [.In] [.Name x p] pos) (tstB (un (dKIn ps) f)) := by
  obtain ⟨pp, hg, km⟩ := T
  exact PT.imp (pt_cmpR op_kin ha (pe_glob (v := V.ref pp) (glB_of h).gl hg rfl (glB_of h).d1) hm) fun σ H Q ⟨ρ, G, ok, q⟩ => kin_rd km ⟨ρ, G, ok, tstB_rd q⟩
theorem kt_notIn (T : KTop X.K X.w X.mg x ps) (ha : EB X ea W a f) (h : glB X x = true := by kernel_rfl) (hm : behindInMarks .NotIn (.Name x p) = false := by rfl) : ET X ea W (.Compare a [.NotIn] [.Name x p] pos) (tstB (un (dKNotIn ps) f)) := by
  obtain ⟨pp, hg, km⟩ := T
  exact PT.imp (pt_cmpR op_knotIn ha (pe_glob (v := V.ref pp) (glB_of h).gl hg rfl (glB_of h).d1) hm) fun σ H Q ⟨ρ, G, ok, q⟩ => knotIn_rd km ⟨ρ, G, ok, tstB_rd q⟩
def rKIx (K : PySem.W.Frag) (w : World) : R2 := fun x y H Q => ∃ p ps k d, x = .ref p ∧ KMap K w p ps ∧ y = .str k ∧ lookT ps (tl k) = some d ∧ ∀ v, (∀ G, Rep K G v d) → Q v H
theorem ix_kmap : IxR X (rKIx X.K X.w) := by
  intro value slice pins s σ H x y v u Q I rx ry h hs
  obtain ⟨pp, ps, k, d, rfl, km, rfl, hl0, q⟩ := h
  obtain rfl : v = Value.ref pp := rx
  obtain ⟨t, rfl⟩ := ry
  obtain ⟨es, n, hl, hk⟩ := km.ob
  have hm := PySem.W.mapOf_K (prog := X.prog) (w := X.w) I.kIn hl hk
  rcases km.at_ k with ⟨l1, l2⟩ | ⟨d', v', u', l1, l2, ru, rv⟩
  · rw [l1] at hl0; cases hl0
  · rw [l1] at hl0
    cases hl0
    exact tail_any hm.typeIs slot_dict_getitem.lookup (wpAny_getItem_of (strKind_is X.prog X.w k t) hm (PySem.W.find_K hl l2) ⟨v', H, I.tok _, ru, q v' rv⟩) hs
theorem k_ix (T : KTop X.K X.w X.mg x ps) (hb : EB X ea W b f) (h : glB X x = true := by kernel_rfl) (hs : PlainIx b := by exact fun _ _ => rfl) : EG X ea W (.Subscript (.Name x p) b pos) (un (dKIx ps) f) := by
  obtain ⟨pp, hg, km⟩ := T
  refine PE.imp (pe_ix ix_kmap (pe_glob (v := V.ref pp) (glB_of h).gl hg rfl (glB_of h).d1) hb hs) fun σ H Q ⟨ρ, G, ok, q⟩ => ?_
  refine ⟨ρ, G, ok, q.bind fun d v H1 G1 x1 m1 q1 => ?_⟩
  have q2 := q1.extG x1
  unfold dKIx at q2
  split at q2
  · rename_i z
    obtain ⟨k, rfl, rfl⟩ := RepB.str m1
    cases l : lookT ps (tl k) with
    | none => rw [l] at q2; exact q2.elim
    | some d =>
      rw [l] at q2
      exact ⟨pp, ps, k, d, rfl, km, rfl, l, fun v rv => q2 v H1 G1 (.refl x1.gh) (rv G1)⟩
  · exact q2.elim
end
end SR

set_option linter.all false
set_option autoImplicit false
set_option Elab.async false
set_option maxRecDepth 100000
set_option maxHeartbeats 2000000
/-! SS4: len(set(x)). -/
namespace SR
open PySem PySem.Spec PyProof.Rows L2 TL RZ
section
variable {X : Cx} {κ : Type} [DecidableEq κ]
def rLenK (Z : OrdK X.prog X.w κ) : List V → Hp → VK → Prop := fun xs H Q => ∃ (a : Addr) (ks os : List κ), xs = [.ref a] ∧ H a = some (setO Z a (fun j => decide (j ∈ ks)) ks.length) ∧ ks.length < 4096 ∧ Z.rising os ∧ (∀ k, k ∈ os ↔ k ∈ ks) ∧ Q (.int (os.length : Nat)) H
theorem rise_nodup {Z : OrdK X.prog X.w κ} {l : List κ} (h : Z.rising l) : l.Nodup := h.imp fun {a b} q e => by
  rw [e, Z.irr] at q; cases q
theorem call_lenK (Z : OrdK X.prog X.w κ) : CallR X (.builtin "len") (rLenK Z) := by
  intro pins s σ H vs us Q I r h
  obtain ⟨a, ks, os, rfl, ha, hn, hr, hm, q⟩ := h
  have R : Z.toSetK.upTo s.heap a (fun j => decide (j ∈ ks)) ks.length := (I.hok a _ ha).1
  rw [Vals.ref1 r]
  obtain ⟨⟨o, es, ep, t, ho, hex, hd, g, nd, hmm, hf, _, _⟩, hb⟩ := R
  have hle := hb o es ep t ho hd
  have e1 : (Z.toSetK.keys es).length = es.size := by unfold SetK.keys; rw [List.length_map, Array.length_toList]
  have e2 : os.length = es.size := by
    rw [← e1]
    refine List.Perm.length_eq ((List.perm_ext_iff_of_nodup (rise_nodup hr) nd).mpr fun k => ?_)
    rw [hm k, ← hmm k, decide_eq_true_eq]
  refine call_len_set ho hex hd hf (by omega) ⟨.int (os.length : Nat), H, I.tok _, ⟨_, by rw [e2]⟩, q⟩
theorem lenset_rd {ea : EA} {W : WX} (Z : OrdK X.prog X.w κ) {H G : Hp} {p : Addr} {ks : List κ} {Q : VK} (s : Same G H) (hp : H p = some (.lst (ks.map Z.vk))) (hl : ks.length < 1000)
    (q : ∀ v H' G', Ext H G H' G' → RepF X.K H H' G' v (.int (((ks.map Z.dk).foldr (insD D.lt1) []).length : Nat)) → Q v H') : rSetL Z X.K [.ref p] H fun v H' => rLenK Z [v] H' Q := by
  obtain ⟨m, e1, r1, m1⟩ := foldr_rise (Z := Z) ks
  refine ⟨p, ks, rfl, .inl (.inl hp), by omega, fun a ha => ⟨a, ks, m, rfl, upd_same, by omega, r1, m1, ?_⟩⟩
  have x0 : Ext H G (upd H a (setO Z a (fun j => decide (j ∈ ks)) ks.length)) G := Ext.newO s ha
  rw [e1, List.length_map] at q
  exact q _ _ G x0 (.inl ⟨.int _, rfl⟩)
end
section
variable {X : Cx} {ea : EA} {W : WX} {m : Mode} {e a b : Expr} {es : List Expr} {p pos pos' p2 pos2 : Pos} {f g : EX}
/-- len(set(x)) -/
theorem b_lenset (hc : X.calm = true) (hm : X.mg "len" = none) (hm2 : X.mg "set" = none) (ha : EB X ea W a f) (h : glB X "len" = true := by kernel_rfl) (h2 : glB X "set" = true := by kernel_rfl)
    (he : starEach (a :: []) X.env = (false, eval a X.env) :: starEach [] X.env := by rfl) (he2 : starEach (.Call (.Name "set" p2) [a] [] pos2 :: []) X.env = (false, eval (.Call (.Name "set" p2) [a] [] pos2) X.env) :: starEach [] X.env := by rfl) :
    EF X ea W (.Call (.Name "len" p) [.Call (.Name "set" p2) [a] [] pos2] [] pos) (un dLenSet f) := by
  have c1 := (call_setK hc (ordB X.prog X.w)).or ((call_setK hc (ordI X.prog X.w)).or (call_setK hc (ordS X.prog X.w)))
  have c2 := (call_lenK (ordB X.prog X.w)).or ((call_lenK (ordI X.prog X.w)).or (call_lenK (ordS X.prog X.w)))
  refine PE.imp (pe_callB c2 (glB_of h).gl hm PySem.boot_len (pa_cons (pe_callTy c1 (glB_of h2).gl hm2 boot_set (pa_cons ha pa_nil he) (glB_of h2).d2 (glB_of h2).d1 he rfl) pa_nil he2) (glB_of h).d2 (glB_of h).d1 he2 rfl) fun σ H Q ⟨ρ, G, ok, q⟩ => ?_
  refine ⟨ρ, G, ok, q.bind fun d v H1 G1 x1 m1 q1 => ?_⟩
  have q2 := q1.extF x1
  unfold dLenSet at q2
  split at q2
  · rename_i xs
    split at q2
    · rename_i hk
      rw [Bool.and_eq_true, decide_eq_true_eq] at hk
      obtain ⟨pp, vs, rfl, hp, r⟩ := RepB.lst x1.gh m1
      rcases kind1_of hk.1 with k | k | k
      · obtain ⟨ks, rfl, rfl⟩ := allB r k
        obtain ⟨p', ks', e1, e2, e3, e4⟩ := lenset_rd (ea := ea) (W := W) (ordB X.prog X.w) x1.gh hp (by simpa using hk.2) q2
        exact .inl ⟨p', ks', e1, e2, e3, fun a ha => .inl (e4 a ha)⟩
      · obtain ⟨ks, rfl, rfl⟩ := allI r k
        obtain ⟨p', ks', e1, e2, e3, e4⟩ := lenset_rd (ea := ea) (W := W) (ordI X.prog X.w) x1.gh hp (by simpa using hk.2) q2
        exact .inr (.inl ⟨p', ks', e1, e2, e3, fun a ha => .inr (.inl (e4 a ha))⟩)
      · obtain ⟨ks, rfl, rfl⟩ := allS r k
        obtain ⟨p', ks', e1, e2, e3, e4⟩ := lenset_rd (ea := ea) (W := W) (ordS X.prog X.w) x1.gh hp (by simpa using hk.2) q2
        exact .inr (.inr ⟨p', ks', e1, e2, e3, fun a ha => .inr (.inr (e4 a ha))⟩)
    · exact q2.elim
  · exact q2.elim
end
end SR

set_option linter.all false
set_option autoImplicit false
set_option Elab.async false
set_option maxRecDepth 100000
set_option maxHeartbeats 2000000
/-! SS5: enumerate of a list or a tuple. -/
namespace SR
open PySem PySem.Spec PyProof.Rows L2 TL RZ
open PySem.Sem (wp)
theorem meets_enumerate_newX (v : Value) (o1 : Obj) :
    Meets (Builtin.«enumerate.__new__» ⟨[.type "enumerate", v], []⟩) (fun _ R s => Lays v o1 s ∧
      R (.ok (.ret (.ref (s.heap.push o1).objs.size))) { s with heap := (s.heap.push o1).push { cls := .type "enumerate", data := .fields #[.none, .bool false, .ref s.heap.objs.size, rawInt 0, .none, .none] } }) :=
  .of_wp fun prog w A R s h => by
    obtain ⟨hp, g, d, tk, os⟩ := s
    obtain ⟨hl, h⟩ := h
    have hsub := sub_enumerate
    unfold Lays at hl
    wp_walk
    refine wpAny_stack_any fun st => wpAny_pure ?_
    split
    · rename_i c _ _ _ _ _
      cases (c == Value.type "enumerate")
      · wp_walk using hl _ _ _ _ _
        exact ⟨_, rfl, h⟩
      · wp_walk using hl _ _ _ _ _
        exact ⟨_, rfl, h⟩
    · wp_walk using hl _ _ _ _ _
      exact ⟨_, rfl, h⟩
section
variable {prog : Program} {w : World} {A : Around} {E : Value → Shared → Prop} {s : Shared}
theorem call_enumerateX {v : Value} {o1 : Obj} {Q : Value → Shared → Prop} (hl : Lays v o1 s) (f1 : o1.isFreed = false)
    (h : ∀ h', IsEnum h' (s.heap.objs.size + 1) s.heap.objs.size 0 .none → h'.get? s.heap.objs.size = some o1 → h'.objs.size = s.heap.objs.size + 2 →
      (∀ b o, s.heap.get? b = some o → h'.get? b = some o) → Q (.ref (s.heap.objs.size + 1)) { s with heap := h' }) :
    wpAny (model prog w) A (call (.type "enumerate") [v]) Q E s := by
  refine callType_new F.called_enumerate (by decide) (F.typeCall_enumerate_1 _) (F.newCall_enumerate_1 _) (fun obj => F.args_object_init_2 obj _) F.entry_enumerate_new
    (meets_enumerate_newX v o1) ⟨hl, ?_⟩
  have hz : (s.heap.push o1).objs.size = s.heap.objs.size + 1 := Heap.size_push ..
  show _ ∧ _
  rw [hz]
  have he : IsEnum ((s.heap.push o1).push { cls := .type "enumerate", data := .fields #[.none, .bool false, .ref s.heap.objs.size, rawInt 0, .none, .none] }) (s.heap.objs.size + 1) s.heap.objs.size 0 .none := by
    have := Heap.get?_push_size (s.heap.push o1) (o := { cls := .type "enumerate", data := .fields #[.none, .bool false, .ref s.heap.objs.size, rawInt 0, .none, .none] }) rfl
    rw [hz] at this; exact this
  refine ⟨⟨_, he, rfl⟩, h _ he (Heap.get?_push_of_some _ (Heap.get?_push_size _ f1)) (by rw [Heap.size_push, hz]) fun b o x => Heap.get?_push_of_some _ (Heap.get?_push_of_some _ x)⟩
end
/-- enumerate of one of them -/
def IteX (K : PySem.W.Frag) (s1 : ZS) (vs : List V) : It :=
  ⟨fun i H => s1.vs K H vs ∧ i < vs.length, fun i H v H' => ∃ T x o, v = .ref T ∧ H T = none ∧ o.dict = none ∧ H' = upd H T (.frz o (.tup [.int (i : Nat), x])) ∧ vs[i]? = some x, fun i H => s1.vs K H vs ∧ i = vs.length⟩
theorem turn_enumX {P : Program} {w : World} {K : PySem.W.Frag} {elts : List Expr} {kk : Nat} {tpos : Pos} {s1 : ZS} {vs : List V} (b0 : Nat) (hb1 : s1.below b0) :
    Turn P w K (.Tuple elts kk tpos) (IteX K s1 vs) [b0 + 1, b0] (b0 + 1) (fun i h => (∃ old, IsEnum h (b0 + 1) b0 ((i : Nat) : Int) old) ∧ s1.it h b0 i) where
  mem := by simp
  obj := fun i h st c hc => by
    obtain ⟨⟨old, he⟩, h1⟩ := st
    have e' : c = b0 + 1 ∨ c = b0 := by simpa using hc
    rcases e' with q | q
    · rw [q]; exact ⟨_, he, fun v q => nomatch q⟩
    · rw [q]; exact ZS.ob h1
  keep := fun i h h' st k => by
    obtain ⟨⟨old, he⟩, h1⟩ := st
    exact ⟨⟨old, k _ (by simp) _ he⟩, ZS.at h1 fun o q => k _ (by simp) o q⟩
  item := by
    intro X hP hw hK hc i pins s σ H E I hf st hg
    subst hP hw hK
    obtain ⟨⟨old, he⟩, h1⟩ := st
    obtain ⟨hqx, hi1⟩ := hg
    obtain ⟨f1, P1, St1, D1, m1, st1, g1, v1, o1⟩ := ZS.draws I (A := X.A.in1) (I.ok.hd hc) hqx h1 b0 hb1
    have ne : ((b0 + 1 : Nat) : Addr) ≠ b0 := Nat.succ_ne_self b0
    have hef : ((b0 + 1 : Nat) : Addr) ∉ f1 := fun hm => by
      rcases o1 _ hm with q | q
      · exact ne q
      · exact absurd (show b0 + 1 < b0 from q) (by omega)
    have hel : b0 + 1 < s.heap.objs.size := Heap.lt_size he
    refine wpAny_pyNext_enum_itemD D1 he st1 hi1 ne hef fun u h' tk p1 ho h1' hT hsz hk => ?_
    obtain ⟨x, hx, ru⟩ := v1 _ _ p1
    refine ⟨_, rfl, wpAny_letOwnedTupleGo_enum (s := { s with heap := h', toks := tk + 1 }) ho fun h'' he' sb => ?_⟩
    have hT2 : h''.get? s.heap.objs.size = some { cls := .type "tuple", data := .seq #[.int i tk, u] } := (sb.2 _ (Nat.ne_of_gt hel)).trans hT
    have new : ObjOk X.prog X.w (upd H s.heap.objs.size (.frz (tupOb [.int i tk, u]) (.tup [.int (i : Nat), x]))) h'' s.heap.objs.size (.frz (tupOb [.int i tk, u]) (.tup [.int (i : Nat), x])) :=
      ⟨hT2, by show 2 ≤ sizeLine; decide, [.int i tk, u], .cons ⟨_, rfl⟩ (.cons ru .nil), ⟨_, hT2, rfl, _, rfl⟩⟩
    have I1 : Inv X pins σ (upd H s.heap.objs.size (.frz (tupOb [.int i tk, u]) (.tup [.int (i : Nat), x]))) { s with heap := h'', toks := tk + 1 } :=
      I.turnedNew (t' := tk + 1) (ch := [b0 + 1, b0]) (fun c o hb q => (sb.2 c (fun z => hb (by simp [z]))).trans (hk c o (fun z => hb (by simp [z])) (fun z => hb (by simp [z])) q)) hf (Nat.le_refl _) new
    refine ⟨.ref s.heap.objs.size, _, I1, rfl, ⟨_, x, _, rfl, I.hok.fresh (Nat.le_refl _), rfl, rfl, hx⟩, ⟨⟨u, ?_⟩, ?_⟩, fun c hcm => ?_⟩
    · have e1 : ((i + 1 : Nat) : Int) = (i : Int) + 1 := by omega
      rw [e1]; exact he'
    · exact ZS.at (g1 _ _ h1') fun o q => (sb.2 _ (Ne.symm ne)).trans q
    · have hlt : c < s.heap.objs.size := by
        have e' : c = b0 + 1 ∨ c = b0 := by simpa using hcm
        rcases e' with q | q
        · rw [q]; exact hel
        · rw [q]; exact Nat.lt_of_succ_lt hel
      rw [upd_ne (Nat.ne_of_lt hlt)]
      exact (hf c hcm).1
  done := by
    intro X hP hw hK hc i pins s σ H E I hf st hg
    subst hP hw hK
    obtain ⟨⟨old, he⟩, h1⟩ := st
    obtain ⟨hqx, hi1⟩ := hg
    obtain ⟨f1, P1, St1, D1, m1, st1, g1, v1, o1⟩ := ZS.draws I (A := X.A.in1) (I.ok.hd hc) hqx h1 b0 hb1
    obtain ⟨q0, q1, q2, q3, q4, q5⟩ := hf b0 (by simp)
    rw [hi1] at st1 he
    exact wpAny_pyNext_enum_endD D1 he st1 fun h' eb => ⟨rfl, I.turned (t' := s.toks) (fun b o hb q => eb b o hb q) q0 q1 q3 q4 q5⟩
  self := fun A i s Q E st h => let ⟨⟨_, he⟩, _⟩ := st; wpAny_pyIter_enum he h
def iEnumX (K : PySem.W.Frag) (ta : TA) : TI := fun σ H R => ta σ H fun vs H1 => ∃ s1 xs, vs = [s1.v] ∧ s1.vs K H1 xs ∧ R (IteX K s1 xs) H1
theorem pi_enumX {X : Cx} {e : Expr} {ta : TA} {p pos tpos : Pos} {elts : List Expr} {kk : Nat} (hg : Gl X "enumerate") (hm : X.mg "enumerate" = none) (ha : PA X [e] ta) (hs : starEach [e] X.env = [(false, eval e X.env)] := by rfl) :
    PI X (.Tuple elts kk tpos) (.Call (.Name "enumerate" p) [e] [] pos) (iEnumX X.K ta) := by
  refine ⟨fun pins s σ H R I h => ?_⟩
  refine Call_ (ld_blt I hg hm boot_enumerate (PyProof.Rows.callWith_type1 (thn (ha.run pos pins s σ H _ I h) fun us s1 ⟨vs, H1, I1, r1, q1⟩ => ?_) hs rfl))
  obtain ⟨z1, xs, ex, hx, q⟩ := q1
  subst ex
  cases r1 with
  | cons r rr =>
    cases rr
    obtain ⟨o1, l1, _, f1, it1, b1⟩ := lays_of I1 hx r
    have fresh2 : ∀ c, c ∈ [s1.heap.objs.size + 1, s1.heap.objs.size] → FpOk X pins H1 c := fun c hcm => by
      have e' : c = s1.heap.objs.size + 1 ∨ c = s1.heap.objs.size := by simpa using hcm
      have hle : s1.heap.objs.size ≤ c := by
        rcases e' with z | z
        · rw [z]; exact Nat.le_add_right _ _
        · rw [z]; exact Nat.le_refl _
      exact I1.fpOk hle (I1.hok.fresh hle)
    refine call_enumerateX l1 f1 fun h' he h1 hsz hk => wpAny_pyIter_enum he ?_
    have I2 : Inv X pins σ H1 { s1 with heap := h' } := I1.kept (t' := s1.toks) hk
    exact ⟨s1.heap.objs.size + 1, _, _, _, H1, rfl, I2, turn_enumX s1.heap.objs.size b1, ⟨⟨.none, he⟩, it1 _ _ h1⟩, fresh2, q⟩
theorem enumD_get {xs : List D} {i : Nat} {d : D} (h : (enumD xs)[i]? = some d) : ∃ x, xs[i]? = some x ∧ d = .tup [.int (i : Nat), x] := by
  unfold enumD at h
  rw [List.getElem?_map] at h
  obtain ⟨p, hp, rfl⟩ := Option.map_eq_some_iff.mp h
  rw [List.getElem?_zipIdx] at hp
  obtain ⟨x, hx, rfl⟩ := Option.map_eq_some_iff.mp hp
  exact ⟨x, hx, by simp⟩
theorem enumD_len (xs : List D) : (enumD xs).length = xs.length := by unfold enumD; rw [List.length_map, List.length_zipIdx]
theorem itok_enumX {K : PySem.W.Frag} {s1 : ZS} {vs : List V} {ds : List D} {G : Hp} (h1 : ∀ H, Same G H → s1.vs K H vs) (r : Reps K G vs ds) : ItOk K (IteX K s1 vs) (enumD ds) G := by
  refine ⟨fun H1 G1 q1 q2 i d h => ?_, fun H1 G1 q1 q2 i he => ?_⟩
  · obtain ⟨d1, e1, rfl⟩ := enumD_get h
    obtain ⟨v, hv, rv⟩ := r.get e1
    refine ⟨⟨h1 _ (q1.trans q2), (List.getElem?_eq_some_iff.mp hv).1⟩, fun x H2 y => ?_⟩
    obtain ⟨T, x1, ob, rfl, nT, od, rfl, f1⟩ := y
    rw [hv] at f1; cases f1
    have gT : G1 T = none := same_none q2 nT
    exact ⟨_, Ext.new q2 nT, .tupI upd_same od ((Reps.cons (.int _) (.cons (rv.same q1) .nil)).same (same_updN gT))⟩
  · rw [enumD_len, ← r.1] at he
    exact ⟨h1 _ (q1.trans q2), he⟩
section
variable {X : Cx} {ea : EA} {W : WX} {a b : Expr} {p pos : Pos} {f g : EX}
theorem i_enum {elts : List Expr} {kk : Nat} {tpos : Pos} (hm : X.mg "enumerate" = none) (ha : EG X ea W a f) (h : glB X "enumerate" = true := by kernel_rfl)
    (hs : starEach [a] X.env = (false, eval a X.env) :: starEach [] X.env := by rfl) (hs1 : starEach [a] X.env = [(false, eval a X.env)] := by rfl) : SI X ea W (.Tuple elts kk tpos) (.Call (.Name "enumerate" p) [a] [] pos) (srcEnum f) :=
  PI.imp (pi_enumX (glB_of h).gl hm (pa_cons ha pa_nil hs) hs1) fun σ H R ⟨ρ, G, ok, q⟩ => by
    unfold srcEnum at q
    refine ⟨ρ, G, ok, ?_⟩
    cases r : f ρ with
    | bad => rw [r] at q; exact q
    | rs c => rw [r] at q; exact q
    | ok d =>
      rw [r] at q
      intro v H1 G1 x1 m1
      simp only [ok_bind] at q
      cases e1 : items d with
      | bad =>
        cases d with
        | lst xs => cases e1
        | tup xs => cases e1
        | str x => cases e1
        | _ => exact q.elim
      | rs c => exact absurd e1 (by unfold items; split <;> exact fun z => by cases z)
      | ok ds =>
        obtain ⟨s1, vs, rfl, h1, r1⟩ := zs_of m1 e1
        refine ⟨s1, vs, rfl, h1 _ x1.gh, ?_⟩
        cases d with
        | lst xs => cases e1; exact q _ H1 G1 x1 (itok_enumX h1 r1)
        | tup xs => cases e1; exact q _ H1 G1 x1 (itok_enumX h1 r1)
        | str x => exact q.elim
        | _ => cases e1
end
end SR

set_option linter.all false
set_option autoImplicit false
set_option Elab.async false
set_option maxRecDepth 100000
set_option maxHeartbeats 2000000
/-! SS6: stored at once, the first one a new dict of one's own. -/
namespace SR
open PySem PySem.Spec PyProof.Rows L2 TL RZ
section
variable {X : Cx} {ea : EA} {W : WX} {m : Mode} {e a b c : Expr} {p p2 pos pos' pos2 : Pos} {f g : EX} {x y z : Str}
/-- what both orders share -/
theorem parO_rd {K : PySem.W.Frag} {D0 : Ends} {σ : Sg} {H : Hp} {is : List Nat} {r : AX} {R : List V → Hp → Prop} {H0 G0 G : Hp} {ρ : SR.Env} (ok : StOk K H0 G0 ρ σ H G) (q : rdSX K ea W m (sParO is f r ρ) H0 G0 G D0)
    (k : ∀ (pp : Addr) (vs : List V) (t : Bool) (kvs : List (D × D)) (xs : List D) (H2 G2 : Hp), Ext H G H2 G2 → H pp = none → G2 pp = none → Cell K H2 G2 pp (.dct t kvs) → Reps K G2 vs xs → xs.length + 1 = is.length →
      rdSX K ea W m (.nx ((is.tail.zip xs).foldl (fun ρ p => ρ.set p.1 (.pl p.2)) (ρ.set (is.headD 0) (.own (.dct t kvs))))) H0 G0 G2 D0 → R (.ref pp :: vs) H2) :
    tCons (rd K ea W (mF K) f) (rdA K ea W r) σ H R := by
  refine ⟨ρ, G, ok.env, ?_⟩
  unfold sParO at q
  cases hf : f ρ with
  | bad => rw [hf] at q; exact q
  | rs c => rw [hf] at q; exact fun H1 G1 x => q σ H1 G1 (ok.extend x) x.gg
  | ok d =>
    rw [hf] at q
    intro v H1 G1 x1 m1
    cases d with
    | dct t kvs =>
      simp only at q
      refine ⟨ρ, G1, ok.env.ext x1, ?_⟩
      rcases m1 with ⟨_, hm⟩ | ⟨pp, rfl, h0, g, cc⟩
      · cases hm
      cases hr : r ρ with
      | bad => rw [hr] at q; exact q
      | rs c => rw [hr] at q; exact fun H2 G2 x => q σ H2 G2 (ok.extend (x1.trans x)) (x1.trans x).gg
      | ok xs =>
        rw [hr] at q
        intro vs H2 G2 x2 m2
        simp only at q
        split at q
        · rename_i hl
          exact k pp vs t kvs xs H2 G2 (x1.trans x2) h0 (x2.out pp cc.there g) (cc.same x2.hh x2.gg) m2 hl (q.same (x1.trans x2).gg)
        · exact q.elim
    | _ => exact q.elim
theorem s_parO2 {i j : Nat} {px py pt : Pos} {kt k2 : Nat} {r : AX} (hc : X.calm = true) (nd : X.N.Nodup) (hij : i ≠ j) (ha : EF X ea W a f) (hb : EA' X ea W [b] r) (h1 : okS X i x = true := by kernel_rfl) (h2 : okS X j y = true := by kernel_rfl) (hl1 : locB1 X x = true := by kernel_rfl) (hl2 : locB1 X y = true := by kernel_rfl)
    (hse : starEach [a, b] X.env = (false, eval a X.env) :: starEach [b] X.env := by rfl)
    (hw : swappedStores [.Tuple [.Name x px, .Name y py] kt pt] (.Tuple [a, b] k2 pos2) X.env = pure (some [x, y]) := by kernel_rfl) (hs : swapsWithSole [.Tuple [.Name x px, .Name y py] kt pt] (.Tuple [a, b] k2 pos2) pos.line X.env = pure false := by rfl) :
    ES X ea W m (.Assign [.Tuple [.Name x px, .Name y py] kt pt] (.Tuple [a, b] k2 pos2) pos) (sParO [i, j] f r) := by
  refine PS.imp (ps_par hc nd (okS_of h1).at_ (okS_of h2).at_ hij (locB1_of hl1) (locB1_of hl2) (pa_cons ha hb hse) hw hs) fun D0 σ H ⟨ρ, H0, G0, G, ok, q⟩ => ?_
  refine parO_rd ok q fun pp vs t kvs xs H2 G2 x2 hp g2 cc rr hl q2 => ?_
  match xs, hl with
  | [d1], _ =>
    obtain ⟨v1, ws, rfl, r1, r2⟩ := rr.consOf
    have := r2.nilOf
    subst this
    exact ⟨_, v1, rfl, q2 _ H2 G2 ((ok.setOwn hp x2 g2 cc).setPl r1) (Same.refl _)⟩
theorem s_parO3 {i j l : Nat} {px py pz pt : Pos} {kt k2 : Nat} {r : AX} (hc : X.calm = true) (nd : X.N.Nodup) (hij : i ≠ j) (hil : i ≠ l) (hjl : j ≠ l) (ha : EF X ea W a f) (hb : EA' X ea W [b, c] r) (h1 : okS X i x = true := by kernel_rfl) (h2 : okS X j y = true := by kernel_rfl) (h3 : okS X l z = true := by kernel_rfl)
    (hl1 : locB1 X x = true := by kernel_rfl) (hl2 : locB1 X y = true := by kernel_rfl) (hl3 : locB1 X z = true := by kernel_rfl)
    (hse : starEach [a, b, c] X.env = (false, eval a X.env) :: starEach [b, c] X.env := by rfl)
    (hw : swappedStores [.Tuple [.Name x px, .Name y py, .Name z pz] kt pt] (.Tuple [a, b, c] k2 pos2) X.env = pure (some [x, y, z]) := by kernel_rfl) (hs : swapsWithSole [.Tuple [.Name x px, .Name y py, .Name z pz] kt pt] (.Tuple [a, b, c] k2 pos2) pos.line X.env = pure false := by rfl) :
    ES X ea W m (.Assign [.Tuple [.Name x px, .Name y py, .Name z pz] kt pt] (.Tuple [a, b, c] k2 pos2) pos) (sParO [i, j, l] f r) := by
  refine PS.imp (ps_par3 hc nd (okS_of h1).at_ (okS_of h2).at_ (okS_of h3).at_ hij hil hjl (locB1_of hl1) (locB1_of hl2) (locB1_of hl3) (pa_cons ha hb hse) hw hs) fun D0 σ H ⟨ρ, H0, G0, G, ok, q⟩ => ?_
  refine parO_rd ok q fun pp vs t kvs xs H2 G2 x2 hp g2 cc rr hl q2 => ?_
  match xs, hl with
  | [d1, d2], _ =>
    obtain ⟨v1, ws, rfl, r1, r2⟩ := rr.consOf
    obtain ⟨v2, ws2, rfl, r3, r4⟩ := r2.consOf
    have := r4.nilOf
    subst this
    exact ⟨_, v1, v2, rfl, q2 _ H2 G2 (((ok.setOwn hp x2 g2 cc).setPl r1).setPl r3) (Same.refl _)⟩
end
end SR

set_option linter.all false
set_option autoImplicit false
set_option Elab.async false
set_option maxRecDepth 100000
set_option maxHeartbeats 2000000
/-! SS7: sum of a list of numbers; dict of a list of pairs whose keys are tuples. -/
namespace SR
open PySem PySem.Spec PyProof.Rows L2 TL RZ
section
variable {X : Cx} {pins : List (Addr × Obj)} {σ : Sg} {H : Hp} {s : Shared}
def rSumI (K : PySem.W.Frag) : List V → Hp → VK → Prop := fun xs H Q => ∃ (a : Addr) (ns : List Int), xs = [.ref a] ∧ SqL K H a (ns.map V.int) ∧ Q (.int ns.sum) H
theorem call_sumI (hc : X.calm = true) : CallR X (.builtin "sum") (rSumI X.K) := by
  intro pins s σ H xs us Q I r q
  obtain ⟨a, ns, rfl, hs, q⟩ := q
  obtain ⟨its, rv, hl, hz⟩ := I.list hs
  rw [Vals.ref1 r]
  have hL : s.heap.IsList a its.toArray := hl.isList
  obtain ⟨o, ho, hcl, n, hd⟩ := id hL
  have hne : a ≠ s.heap.objs.size := Nat.ne_of_lt (Heap.lt_size ho)
  have hsz : its.length = ns.length := by have := rv.length; rw [List.length_map] at this; exact this.symm
  refine call_sum_walkAnyS (wpAny_pyIter_list hL ?_)
  refine ⟨s.heap.objs.size, _, _, _, _, _, _, fun i => ns.getD i 0, rfl, (Walks.list (prog := X.prog) (w := X.w) (A := X.A.in1) (I.ok.hd hc) s.heap.objs.size a hne its.toArray).toS, ⟨⟨_, Heap.get?_push_size _ rfl, rfl, rfl⟩, hL.push _⟩, fun b hb => ?_, fun i v hP => ?_, fun s' t' hm => ?_⟩
  · rcases List.mem_cons.mp hb with rfl | hb
    · exact Heap.lt_size (Heap.get?_push_size _ rfl)
    · obtain rfl := List.mem_singleton.mp hb
      exact Heap.lt_size (Heap.get?_push_of_some _ ho)
  · have h1 : its[i]? = some v := by simpa using hP
    have hi : i < ns.length := by rw [← hsz]; exact (List.getElem?_eq_some_iff.mp h1).1
    obtain ⟨u, hu1, hu2⟩ := rv.get (i := i) (x := .int ns[i]) (by rw [List.getElem?_map, List.getElem?_eq_getElem hi]; rfl)
    rw [h1] at hu1
    cases hu1
    obtain ⟨t, rfl⟩ := hu2
    exact ⟨t, by show _ = Value.int (ns.getD i 0) t; rw [List.getD_eq_getElem?_getD, List.getElem?_eq_getElem hi]; rfl⟩
  · obtain ⟨h', g', d', tk', os'⟩ := s'
    have e1 : g' = s.gens := hm.gens
    have e2 : d' = s.drawn := hm.drawn
    have e3 : os' = s.os := hm.os
    subst e1 e2 e3
    have I1 : Inv X pins σ H { s with heap := h', toks := tk' } := I.kept fun b o e => hm.heap b o (fun hb => absurd (Heap.lt_size e) ((List.mem_singleton.mp hb) ▸ Nat.lt_irrefl _)) (Heap.get?_push_of_some _ e)
    refine ⟨.int ns.sum, H, I1, ⟨t', ?_⟩, q⟩
    have : its.toArray.size = ns.length := by simpa using hsz
    rw [this, preSum_getD, List.take_length]
end
theorem sum_rep {K : PySem.W.Frag} {G : Hp} : ∀ {vs : List V} {xs : List D} {i : Int}, Reps K G vs xs → sumI xs = some i → ∃ ns : List Int, vs = ns.map V.int ∧ ns.sum = i
  | vs, [], i, r, e => by
    have : vs = [] := List.length_eq_zero_iff.mp r.1
    subst this
    simp only [sumI, Option.some.injEq] at e
    exact ⟨[], rfl, e⟩
  | vs, x :: xs, i, r, e => by
    obtain ⟨v, ws, rfl, r1, r2⟩ := r.consOf
    unfold sumI at e
    split at e
    · rename_i heq; cases heq
    · rename_i k rest heq
      cases heq
      obtain ⟨j, e', rfl⟩ := Option.map_eq_some_iff.mp e
      obtain ⟨ns, rfl, rfl⟩ := sum_rep r2 e'
      cases r1
      exact ⟨k :: ns, rfl, by simp⟩
    · cases e
section
variable {X : Cx} {ea : EA} {W : WX} {m : Mode} {e a b : Expr} {es : List Expr} {p pos pos' p2 pos2 : Pos} {f g : EX}
/-- sum(xs) -/
theorem g_sum (hc : X.calm = true) (hm : X.mg "sum" = none) (ha : EB X ea W a f) (h : glB X "sum" = true := by kernel_rfl) (he : starEach (a :: []) X.env = (false, eval a X.env) :: starEach [] X.env := by rfl) :
    EG X ea W (.Call (.Name "sum" p) [a] [] pos) (un dSum f) := by
  refine PE.imp (pe_callB (call_sumI hc) (glB_of h).gl hm boot_sum (pa_cons ha pa_nil he) (glB_of h).d2 (glB_of h).d1 he rfl) fun σ H Q ⟨ρ, G, ok, q⟩ => ?_
  refine ⟨ρ, G, ok, q.bind fun d v H1 G1 x1 m1 q1 => ?_⟩
  have q2 := q1.extG x1
  unfold dSum at q2
  split at q2
  · split at q2
    · rename_i xs i hk
      obtain ⟨pp, vs, rfl, hp, r⟩ := RepB.lst x1.gh m1
      obtain ⟨ns, rfl, rfl⟩ := sum_rep r hk
      exact ⟨pp, ns, rfl, .inl (.inl hp), q2 _ H1 G1 (.refl x1.gh) (.int _)⟩
    · exact q2.elim
  · exact q2.elim
end
end SR

set_option linter.all false
set_option autoImplicit false
set_option Elab.async false
set_option maxRecDepth 100000
set_option maxHeartbeats 2000000
/-! SS8: min of a tuple. -/
namespace SR
open PySem PySem.Spec PyProof.Rows L2 TL RZ
section
variable {prog : Program} {w : World} {A : Around} {E : Value → Shared → Prop} {s : Shared}
/-- min of a tuple, by the place of the least -/
theorem min_tup_at {l : Addr} {vs : Array Value} {x : PyData} {xs : List PyData} {as : List Addr} {Q : Value → Shared → Prop} (hh : A.handled = none) (hl : s.heap.IsTuple l vs) (hr : ReadsAll s.heap vs.toList (x :: xs) as) (ha : PySem.W.AlikeAll (x :: xs)) (hu : A.units + 1 + PyData.depthAll (x :: xs) < cLine)
    (h : ∀ v h' tk, vs[argBest (fun i j => PySem.W.dataLt ((x :: xs).getD i .none) ((x :: xs).getD j .none)) xs.length]? = some v → (∀ b o, s.heap.get? b = some o → h'.get? b = some o) → Q v { s with heap := h', toks := tk }) :
    wpAny (model prog w) A (call (.builtin "min") [.ref l]) Q E s := by
  have hn : vs.size = xs.length + 1 := PySem.W.readsAll_len hr
  refine call_min_walkH (PySem.W.iter_tupleW (A := A.in1) hh hl fun s₂ e W st hfp hw hk => ?_)
  refine ⟨_, _, _, _, _, _, _, s.heap, _, rfl, W, st, hfp, by omega, hw, hk, PySem.W.cmpIn_lt (A := A.in1) hr ha (by show A.units + 1 + _ < _; exact hu), fun v s' hP m => ?_⟩
  obtain ⟨h', tk, rfl, hk'⟩ := PySem.W.moved_old e rfl m
  have e1 : vs.size - 1 = xs.length := by omega
  rw [e1] at hP
  exact h v h' tk hP hk'
end
def rMinT (K : PySem.W.Frag) : List V → Hp → VK → Prop := fun xs H Q => ∃ (a : Addr) (vs : List V) (x : D) (ds : List D) (G : Hp), xs = [.ref a] ∧ SqT K H a vs ∧ Same G H ∧ Reps K G vs (x :: ds) ∧ SortOk (x :: ds) ∧ ∀ (i : Nat) (v : V), vs[i]? = some v → (x :: ds)[i]? = some (minL x ds) → Q v H
theorem call_minT {X : Cx} (hc : X.calm = true) (hu : X.A.units + 64 < cLine) : CallR X (.builtin "min") (rMinT X.K) := by
  intro pins s σ H xs us Q I r q
  obtain ⟨a, vs, x, ds, G, ex, hs, sm, rr, ok, q⟩ := q
  subst ex
  obtain ⟨its, rv, hl, hz⟩ := I.tuple hs
  rw [Vals.ref1 r]
  obtain ⟨as, ra⟩ := all_reads I sm rr ok.lay rv
  have hd := depth_py (x :: ds) ok.dep
  have hal : PySem.W.AlikeAll ((x :: ds).map toPy) := ⟨alike_of ok, fun d hd e => by
    obtain ⟨y, hy, rfl⟩ := List.mem_map.mp hd
    rcases ok.kind with k | k
    · have := k y hy
      cases y <;> simp [D.neT] at this <;> simp [toPy] at e
    · have := k y hy
      cases y <;> simp [D.noT] at this <;> simp [toPy] at e⟩
  rw [List.map_cons] at ra hd hal
  refine min_tup_at (I.ok.hd hc) hl (by simpa using ra) hal (by omega) fun v h' tk hv hk => ?_
  have hf := PySem.W.argBest_fold (fun a y => PySem.W.dataLt (toPy a) (toPy y)) D.non x ds ds.length (Nat.le_refl _)
  have eb : (fun i j => PySem.W.dataLt ((toPy x :: ds.map toPy).getD i .none) ((toPy x :: ds.map toPy).getD j .none)) = fun i j => PySem.W.dataLt (toPy ((x :: ds).getD i .non)) (toPy ((x :: ds).getD j .non)) := by
    funext i j
    rw [← List.map_cons, getD_map_py, getD_map_py]
  rw [eb, List.length_map] at hv
  generalize argBest (fun i j => PySem.W.dataLt (toPy ((x :: ds).getD i .non)) (toPy ((x :: ds).getD j .non))) ds.length = k at hv hf
  have hk2 : k < (x :: ds).length := by rw [List.length_cons]; omega
  have e2 := hf.2
  rw [List.take_length, fold_py ds x ok.alk ok.lay, List.getD_eq_getElem?_getD, List.getElem?_eq_getElem hk2] at e2
  have e3 : (x :: ds)[k]? = some (minL x ds) := by rw [List.getElem?_eq_getElem hk2]; exact congrArg some e2
  have hkv : k < vs.length := by rw [rr.1]; exact hk2
  obtain ⟨u, hu1, hu2⟩ := rv.get (i := k) (x := vs[k]) (List.getElem?_eq_getElem hkv)
  have : v = u := by
    have h1 : its[k]? = some v := by simpa using hv
    rw [hu1] at h1
    exact (Option.some.inj h1).symm
  subst this
  exact ⟨vs[k], H, I.kept hk, hu2, q k _ (List.getElem?_eq_getElem hkv) e3⟩
section
variable {X : Cx} {ea : EA} {W : WX} {m : Mode} {e a b o c : Expr} {p p2 pos pos' pos2 apos cpos : Pos} {f g k : EX} {x y : Str}
/-- min(xs), xs a list or tuple -/
theorem g_minS (hc : X.calm = true) (hu : X.A.units + 64 < cLine) (hm : X.mg "min" = none) (ha : EB X ea W a f) (h : glB X "min" = true := by kernel_rfl) (he : starEach (a :: []) X.env = (false, eval a X.env) :: starEach [] X.env := by rfl) :
    EG X ea W (.Call (.Name "min" p) [a] [] pos) (un dMinS f) := by
  refine PE.imp (pe_callB ((call_minD hc hu).or (call_minT hc hu)) (glB_of h).gl hm boot_min (pa_cons ha pa_nil he) (glB_of h).d2 (glB_of h).d1 he rfl) fun σ H Q ⟨ρ, G, ok, q⟩ => ?_
  refine ⟨ρ, G, ok, q.bind fun d v H1 G1 x1 m1 q1 => ?_⟩
  have q2 := q1.extG x1
  unfold dMinS at q2
  split at q2
  · split at q2
    · rename_i z xs hk
      obtain ⟨pp, vs, rfl, hp, r⟩ := RepB.tup m1
      exact .inr ⟨pp, vs, _, _, G1, rfl, same_sqT x1.gh hp, x1.gh, r, sortOk_of hk, fun i w h1 h2 => q2 w H1 G1 (.refl x1.gh) (r.2 i _ _ h1 h2)⟩
    · exact q2.elim
  · unfold dMinL at q2
    split at q2
    · split at q2
      · rename_i z xs hk
        obtain ⟨pp, vs, rfl, hp, r⟩ := RepB.lst x1.gh m1
        exact .inl ⟨pp, vs, _, _, G1, rfl, .inl (.inl hp), x1.gh, r, sortOk_of hk, fun i w h1 h2 => q2 w H1 G1 (.refl x1.gh) (r.2 i _ _ h1 h2)⟩
      · exact q2.elim
    · exact q2.elim
end
end SR

set_option linter.all false
set_option autoImplicit false
set_option Elab.async false
set_option maxRecDepth 100000
set_option maxHeartbeats 2000000
/-! SS9: t.index(x) of a tuple of numbers. -/
namespace SR
open PySem PySem.Spec PyProof.Rows L2 TL RZ
section
variable {X : Cx}
/-- a tuple that is known to the object -/
def tyF (x : V) (H : Hp) : Prop := ∃ p o vs, x = .ref p ∧ H p = some (.frz o (.tup vs)) ∧ o.dict = none
theorem tyF_is {pins : List (Addr × Obj)} {σ : L2.St} {H : Hp} {s : Shared} {x : V} {v : Value} (I : Inv X pins σ H s) (r : RelV x v) (ty : tyF x H) :
    s.TypeIs v "tuple" ∧ ∀ a, v = .ref a → ∃ ob, s.heap.get? a = some ob ∧ ob.dict = none := by
  obtain ⟨p, o, vs, rfl, hp, hd⟩ := ty
  cases r
  obtain ⟨e, _, its, _, o', e', hc, _⟩ := (show ObjOk X.prog X.w H s.heap p (.frz o (.tup vs)) from I.hok p _ hp)
  rw [e] at e'
  cases e'
  exact ⟨⟨o, e, hc⟩, fun a z => by cases z; exact ⟨o, e, hd⟩⟩
def tBMF (r : V → List V → Hp → VK → Prop) (to : TE) (t : TA) : TE := fun σ H Q => to σ H fun x H1 => tyF x H1 ∧ t σ H1 fun xs H2 => r x xs H2 Q
theorem pe_bmF {o e : Expr} {es : List Expr} {to : TE} {t : TA} {name : Str} {apos cpos : Pos} {id : String} {r : V → List V → Hp → VK → Prop} (pa : PlainAttrs "tuple") (slot : PySem.Slot "tuple" name id) (hty : typeOf (.builtin id) = pure (.type "method_descriptor")) (hm : MtR X id r) (ho : PE X o to) (ha : PA X (e :: es) t)
    (hbase : attributeBase o name X.env (eval o X.env) = eval o X.env := by rfl)
    (hfew : ((backTo cpos (starEach (e :: es) X.env)).all (fun x => !x.1) && (backToKw cpos (keywordEach [] X.env)).all (fun x => x.1.isSome)
      && decide ((e :: es).length + ([] : List Keyword).length + (if ([] : List Keyword).isEmpty then 0 else 1) < 30)) = true := by rfl)
    (hline : (apos.endLine == cpos.line) = true := by rfl) (hs : starEach (e :: es) X.env = (false, eval e X.env) :: starEach es X.env := by rfl) (hplain : (backTo cpos (starEach es X.env)).any (·.1) = false := by rfl) :
    PE X (.Call (.Attribute o name apos) (e :: es) [] cpos) (tBMF r to t) := by
  refine ⟨fun pins s σ H Q I h => ?_⟩
  refine wpAny_Call_method_late hbase hfew hline rfl (thn (ho.run pins s σ H _ I h) fun v s1 ⟨x, H1, I1, r1, ty, q1⟩ => ?_)
  obtain ⟨h1, h2⟩ := tyF_is I1 r1 ty
  refine ⟨"tuple", id, pa, slot, hty, h1, h2, ?_⟩
  have hA := ha.run cpos pins s1 σ H1 _ I1 q1
  rw [hs] at hA ⊢
  refine Calls.callWith_builtin (by show (false || (backTo cpos (starEach es X.env)).any (·.1)) = false; rw [hplain] <;> rfl) (Calls.evalArgs_plain ?_)
  exact thn hA fun us s2 ⟨vs, H2, I2, r2, q2⟩ => hm pins s2 σ H2 x vs v us Q I2 r1 r2 q2
def rTIx (K : PySem.W.Frag) : V → List V → Hp → VK → Prop := fun x xs H Q => ∃ (p : Addr) (ns : List Int) (k : Int), x = .ref p ∧ xs = [.int k] ∧ SqT K H p (ns.map V.int) ∧ k ∈ ns ∧ Q (.int (ns.idxOf k : Nat)) H
theorem mt_tix : MtR X "tuple.index" (rTIx X.K) := by
  intro pins s σ H x xs v us Q I rx rxs h
  obtain ⟨p, ns, k, rfl, rfl, hp, hk, q⟩ := h
  cases rx
  obtain ⟨u, rfl, ru⟩ := vals1 rxs
  obtain ⟨t, rfl⟩ := ru
  obtain ⟨its, r, pl, hz⟩ := I.tuple hp
  have hi : IntsAre its ns := by
    have := intsAre_of r
    simpa using this
  exact PySem.SeqAt.tuple_index_ints pl hi hk ⟨.int (ns.idxOf k : Nat), H, I.tok _, ⟨_, rfl⟩, q⟩
end
theorem ints_of {K : PySem.W.Frag} {G : Hp} : ∀ {vs : List V} {xs : List D}, Reps K G vs xs → xs.all D.isIn = true → ∃ ns : List Int, vs = ns.map V.int ∧ xs = ns.map D.int
  | vs, [], r, _ => ⟨[], List.length_eq_zero_iff.mp r.1, rfl⟩
  | vs, x :: xs, r, h => by
    obtain ⟨v, ws, rfl, r1, r2⟩ := r.consOf
    rw [List.all_cons, Bool.and_eq_true] at h
    obtain ⟨ns, rfl, rfl⟩ := ints_of r2 h.2
    cases x with
    | int i => cases r1; exact ⟨i :: ns, rfl, rfl⟩
    | _ => cases h.1
theorem find_ix (k : Int) : ∀ ns : List Int, (ns.map D.int).findIdx? (fun x => D.eq x (.int k)) = if k ∈ ns then some (ns.idxOf k) else none
  | [] => rfl
  | n :: ns => by
    rw [List.map_cons, List.findIdx?_cons, List.idxOf_cons]
    have e : D.eq (.int n) (.int k) = (n == k) := by simp [D.eq]
    rw [e, find_ix k ns]
    by_cases h : n = k
    · subst h; simp
    · have hb : (n == k) = false := by simpa using h
      have hm : (k ∈ n :: ns) ↔ k ∈ ns := by rw [List.mem_cons]; exact ⟨fun z => z.resolve_left fun q => h q.symm, .inr⟩
      rw [hb]
      by_cases g : k ∈ ns
      · rw [if_pos g, if_pos (hm.mpr g)]; simp
      · rw [if_neg g, if_neg (fun z => g (hm.mp z))]; rfl
section
variable {X : Cx} {ea : EA} {W : WX} {m : Mode} {e a b : Expr} {p pos apos cpos : Pos} {f g : EX}
/-- t.index(x) -/
theorem m_tix (ha : EB X ea W a f) (hb : EB X ea W b g) (hbase : attributeBase a "index" X.env (eval a X.env) = eval a X.env := by rfl) (hfew : ((backTo cpos (starEach (b :: []) X.env)).all (fun x => !x.1) && (backToKw cpos (keywordEach [] X.env)).all (fun x => x.1.isSome)
      && decide ((b :: ([] : List Expr)).length + ([] : List Keyword).length + (if ([] : List Keyword).isEmpty then 0 else 1) < 30)) = true := by rfl) (hline : (apos.endLine == cpos.line) = true := by rfl)
    (hs : starEach (b :: []) X.env = (false, eval b X.env) :: starEach [] X.env := by rfl) : EF X ea W (.Call (.Attribute a "index" apos) [b] [] cpos) (meth isTuI dTIx f g) := by
  refine PE.imp (pe_bmF PySem.F.plainAttrs_tuple PySem.F.slot_tuple_index PySem.F.type_tuple_index mt_tix ha (pa_cons hb pa_nil hs) hbase hfew hline hs rfl) fun σ H Q ⟨ρ, G, ok, q⟩ => ?_
  refine ⟨ρ, G, ok, q.bind fun d v H1 G1 x1 m1 q1 => ?_⟩
  have q1 := q1.extF x1
  split at q1
  · rename_i hk
    unfold isTuI at hk
    split at hk
    · rename_i xs
      have m1' := m1.rep rfl
      cases m1' with
      | tupK _ _ => cases hk
      | @tup pa o vs _ gp od l r =>
        obtain ⟨ns, rfl, rfl⟩ := ints_of ⟨l, r⟩ hk
        refine ⟨⟨pa, o, _, rfl, x1.gh _ _ gp, od⟩, ρ, G1, ok.ext x1, q1.bind fun e u H2 G2 x2 m2 q2 => ?_⟩
        have q2 := q2.extF x2
        cases e with
        | int k =>
          have := m2.int
          subst this
          unfold dTIx at q2
          simp only [hk, if_true, find_ix] at q2
          by_cases hm : k ∈ ns
          · rw [if_pos hm] at q2
            exact ⟨pa, ns, k, rfl, rfl, .inl (.inr ⟨o, x2.hh _ _ (x1.gh _ _ gp)⟩), hm, q2 _ _ G2 (.refl x2.gh) (.inl ⟨.int _, rfl⟩)⟩
          · rw [if_neg hm] at q2; exact q2.elim
        | _ => exact q2.elim
    · cases hk
  · exact q1.elim
end
end SR

set_option linter.all false
set_option autoImplicit false
set_option Elab.async false
set_option maxRecDepth 100000
set_option maxHeartbeats 2000000
/-! SS10: sorted(t) of a tuple. -/
namespace SR
open PySem PySem.Spec PyProof.Rows L2 TL RZ
def rSortT (K : PySem.W.Frag) : List V → Hp → VK → Prop := fun xs H Q => ∃ (a : Addr) (vs : List V) (ds : List D) (G : Hp), xs = [.ref a] ∧ SqT K H a vs ∧ Same G H ∧ Reps K G vs ds ∧ SortOk ds ∧ ∀ p, H p = none → Q (.ref p) (upd H p (.lst ((sortP (vs.zip ds)).map (·.1))))
theorem call_sortT {X : Cx} (hu : X.A.units + 64 < cLine) : CallR X (.builtin "sorted") (rSortT X.K) := by
  intro pins s σ H xs us Q I r q
  obtain ⟨a, vs, ds, G, ex, hs, sm, rr, ok, q⟩ := q
  subst ex
  obtain ⟨its, rv, hl, hz⟩ := I.tuple hs
  rw [Vals.ref1 r]
  obtain ⟨o, ho, hc, n, hd⟩ := hl
  have hil : its.length = vs.length := rv.length.symm
  refine Calls.call_function_entry PyProof.Rows.kind_sorted PyProof.Rows.plain_sorted PyProof.Rows.entry_sorted (PyProof.Rows.args_sorted1 _) ?_
  unfold Builtin.«sorted»
  refine wpAny_bind (m := checkCount "sorted" 1 1 _) (wpAny_pure (wpAny_bind (wpAny_collect_seq a (.inr rfl) ho hc hd (fun h' hk => ?_) (by simp only [List.size_toArray]; omega))))
  have I1 : Inv X pins σ H { s with heap := h' } := I.kept (t' := s.toks) hk
  refine wpAny_bind (wpAny_newList ?_ (by simp only [List.toList_toArray]; omega))
  refine wpAny_bind (wpAny_holding (wpAny_mono (sort_tail (s := s) (tk := s.toks) hu I1 rv sm rr ok q) (fun _ s' x => ?_) fun _ _ e => e))
  exact wpAny_pure ⟨_, rfl, x⟩
section
variable {X : Cx} {ea : EA} {W : WX} {e a b : Expr} {p pos : Pos} {f g : EX}
theorem b_sortT (hu : X.A.units + 64 < cLine) (hm : X.mg "sorted" = none) (ha : EB X ea W a f) (h : glB X "sorted" = true := by kernel_rfl) (he : starEach (a :: []) X.env = (false, eval a X.env) :: starEach [] X.env := by rfl) :
    EF X ea W (.Call (.Name "sorted" p) [a] [] pos) (un dSortS f) := by
  refine PE.imp (pe_callB (call_sortT hu) (glB_of h).gl hm boot_sorted (pa_cons ha pa_nil he) (glB_of h).d2 (glB_of h).d1 he rfl) fun σ H Q ⟨ρ, G, ok, q⟩ => ?_
  refine ⟨ρ, G, ok, q.bind fun d v H1 G1 x1 m1 q1 => ?_⟩
  have q2 := q1.extF x1
  unfold dSortS at q2
  split at q2
  · split at q2
    · rename_i xs hk
      obtain ⟨pp, vs, rfl, hp, r⟩ := RepB.tup m1
      exact ⟨pp, vs, xs, G1, rfl, same_sqT x1.gh hp, x1.gh, r, sortOk_of hk, new_lst x1.gh (sortP_reps r (sortOk_of hk)) q2⟩
    · exact q2.elim
  · exact q2.elim
end
end SR

set_option linter.all false
set_option autoImplicit false
set_option Elab.async false
set_option maxRecDepth 100000
set_option maxHeartbeats 2000000
/-! SS11: x, y, z = e. -/
namespace SR
open PySem PySem.Spec PyProof.Rows L2 TL RZ
section
variable {X : Cx} {ea : EA} {W : WX} {x y z : Str} {i j l : Nat} {pos : Pos}
theorem gj_tup3 {px py pz : Pos} {kk : Nat} (hc : X.calm = true) (hN : X.N.Nodup) (hi : X.N[i]? = some x) (hx : Loc X.env.scope x) (hj : X.N[j]? = some y) (hy : Loc X.env.scope y) (hl : X.N[l]? = some z) (hz : Loc X.env.scope z)
    (hf : X.fn x = true ∨ X.env.scope.names.lookup x = some .local) (hf' : X.fn y = true ∨ X.env.scope.names.lookup y = some .local) (hf'' : X.fn z = true ∨ X.env.scope.names.lookup z = some .local) :
    GJ X (.Tuple [.Name x px, .Name y py, .Name z pz] kk pos) [i, j, l] (SR.gTup [i, j, l]) :=
  PG.imp (pg_tup hc (pgs_cons (pg_name hN hi hx hf) (pgs_cons (pg_name hN hj hy hf') (pgs_cons (pg_name hN hl hz hf'') pgs_nil)))) fun v σ H Q ⟨ρ, G, d, ok, r, q⟩ => by
    unfold SR.gTup at q
    split at q
    · rename_i ρ' hq
      split at hq
      · rename_i xs
        split at hq
        · rename_i hl
          cases hq
          obtain ⟨a, vs, rfl, sq, rr⟩ := r.tup'
          match xs, hl with
          | [d1, d2, d3], _ =>
            obtain ⟨v1, ws, rfl, r1, r2⟩ := rr.consOf
            obtain ⟨v2, ws2, rfl, r3, r4⟩ := r2.consOf
            obtain ⟨v3, ws3, rfl, r5, r6⟩ := r4.consOf
            have := r6.nilOf
            subst this
            refine ⟨a, _, rfl, same_sqT ok.gh sq, rfl, v1, _, rfl, v2, _, rfl, v3, _, rfl, rfl, ?_⟩
            refine q _ (((ok.setPl r1).setPl r3).setPl r5) (upto_set (upto_set (upto_set ⟨rfl, fun _ _ => rfl⟩ (by simp)) (by simp)) (by simp)) fun k hk => ?_
            have hk : isOwn (((ρ.set i (.pl d1)).set j (.pl d2)).set l (.pl d3))[k]? = true := hk
            obtain ⟨h1, h2⟩ := own_set (ρ := ((ρ.set i (.pl d1)).set j (.pl d2))) (fun _ z => z) k hk
            obtain ⟨h3, h4⟩ := own_set (ρ := (ρ.set i (.pl d1))) (fun _ z => z) k h1
            obtain ⟨h5, h6⟩ := own_set (ρ := ρ) (fun _ z => z) k h3
            exact ⟨h5, by simpa using ⟨h6, h4, h2⟩⟩
        · cases hq
      · cases hq
    · exact q.elim
theorem g_tup3 {px py pz : Pos} {kk : Nat} (hc : X.calm = true) (nd : X.N.Nodup) (i j l : Nat) (h1 : okS X i x = true := by kernel_rfl) (h2 : okS X j y = true := by kernel_rfl) (h3 : okS X l z = true := by kernel_rfl) (hf : hfB X x = true := by kernel_rfl)
    (hf' : hfB X y = true := by kernel_rfl) (hf'' : hfB X z = true := by kernel_rfl) : GJ X (.Tuple [.Name x px, .Name y py, .Name z pz] kk pos) [i, j, l] (SR.gTup [i, j, l]) := gj_tup3 hc nd (okS_of h1).at_ (okS_of h1).loc (okS_of h2).at_ (okS_of h2).loc (okS_of h3).at_ (okS_of h3).loc (hfB_of hf) (hfB_of hf') (hfB_of hf'')
end
end SR

set_option linter.all false
set_option autoImplicit false
/-! SPt: dict of a tuple of pairs, the pure operation. -/
namespace SR
/-- dict(t), t a tuple of pairs -/
def dPairsT : D → Res D
  | .tup xs => match pairsOf xs with
    | some ps => if (ps.all fun p => fitK false p.1) && decide (ps.length ≤ 1000) then .ok (.dct false (putAll ps)) else .bad
    | none => .bad
  | _ => .bad
end SR

set_option linter.all false
set_option autoImplicit false
set_option Elab.async false
set_option maxRecDepth 100000
set_option maxHeartbeats 2000000
/-! SS12: dict(t), t a tuple of pairs. -/
namespace SR
open PySem PySem.Spec PyProof.Rows L2 TL RZ
theorem pick_us {α : Type} : ∀ (prs : List α) (P : Nat → α → Value → Prop), (∀ j q, prs[j]? = some q → ∃ u, P j q u) → ∃ us : List Value, us.length = prs.length ∧ ∀ j q, prs[j]? = some q → ∃ u, us[j]? = some u ∧ P j q u
  | [], _, _ => ⟨[], rfl, fun j q e => by simp at e⟩
  | p :: prs, P, h => by
    obtain ⟨u, hu⟩ := h 0 p rfl
    obtain ⟨us, hl, hh⟩ := pick_us prs (fun j => P (j + 1)) fun j q e => h (j + 1) q (by simpa using e)
    refine ⟨u :: us, by simp [hl], fun j q e => ?_⟩
    cases j with
    | zero =>
      have e' : p = q := Option.some.inj e
      subst e'
      exact ⟨u, rfl, hu⟩
    | succ j =>
      obtain ⟨v, h1, h2⟩ := hh j q (by simpa using e)
      exact ⟨v, by simpa using h1, h2⟩
def rDictP (K : PySem.W.Frag) : List V → Hp → VK → Prop := fun xs H Q => ∃ (a : Addr) (o : Obj) (ps : List Addr) (kvs : List (Key × V)), xs = [.ref a] ∧ H a = some (.frz o (.tup (ps.map V.ref))) ∧ o.dict = none ∧ Paired (fun p kv => SqT K H p [kV kv.1, kv.2]) ps kvs ∧
    ∀ p, H p = none → Q (.ref p) (upd H p (.dK (mergeK [] kvs)))
theorem call_dictTu {X : Cx} (hcalm : X.calm = true) : CallR X (.type "dict") (rDictP X.K) := by
  intro pins s σ H xs us Q I r q
  obtain ⟨a, o, ps, kvs, ex, ha, hod, hp, q⟩ := q
  subst ex
  obtain ⟨u, eu, rx⟩ := vals1 r
  subst eu
  cases rx
  obtain ⟨ho, hz, its, rv, o', ho', hc, n, hdat⟩ := (show ObjOk X.prog X.w H s.heap a (.frz o (.tup (ps.map V.ref))) from I.hok a _ ha)
  rw [ho] at ho'
  cases ho'
  have ei := refs_at rv
  subst ei
  rw [List.length_map] at hz
  obtain ⟨prs, rel, hl, hpr⟩ := pairs_of I hp
  obtain ⟨us, hul, hus⟩ := pick_us prs (fun j q u => ∃ b, ps[j]? = some b ∧ IsTup s.heap b #[u, q.2] ∧ keyIs q.1 u = true) fun j q e => by
    obtain ⟨b, u, h1, h2, h3⟩ := hpr j q e
    exact ⟨u, b, h1, h2, h3⟩
  have hkl : (us.zip (prs.map (·.2))).length = prs.length := by rw [List.length_zip, List.length_map, hul, Nat.min_self]
  have hat : ∀ (j : Nat) (k v : Value), (us.zip (prs.map (·.2)))[j]? = some (k, v) → ∃ q b, prs[j]? = some q ∧ q.2 = v ∧ ps[j]? = some b ∧ IsTup s.heap b #[k, v] ∧ keyIs q.1 k = true := fun j k v e => by
    rw [List.getElem?_zip_eq_some] at e
    obtain ⟨e1, e2⟩ := e
    rw [List.getElem?_map] at e2
    obtain ⟨q, hq, rfl⟩ := Option.map_eq_some_iff.mp e2
    obtain ⟨u, h1, b, h2, h3, h4⟩ := hus j q hq
    rw [e1] at h1
    cases h1
    exact ⟨q, b, hq, rfl, h2, h3, h4⟩
  have hP := PairArg.tuple (prog := X.prog) (w := X.w) a (ps.map Value.ref).toArray (fun j => ps.getD j 0) (us.zip (prs.map (·.2)))
  have hok : PlainSeq "tuple" s.heap a (ps.map Value.ref).toArray ∧ PairItems s.heap (ps.map Value.ref).toArray (fun j => ps.getD j 0) (us.zip (prs.map (·.2))) := by
    refine ⟨⟨o, n, ho, hc, hod, hdat⟩, by rw [hkl]; simp [hl], fun j k v e => ?_⟩
    obtain ⟨q, b, h1, h2, h3, h4, h5⟩ := hat j k v e
    have hT : ps.getD j 0 = b := by rw [List.getD_eq_getElem?_getD, h3]; rfl
    show (ps.map Value.ref).toArray[j]? = some (Value.ref (ps.getD j 0)) ∧ PairAt s.heap (ps.getD j 0) k v
    rw [hT]
    exact ⟨by simp [h3], .inl h4⟩
  refine PySem.call_dict_pairs (knd := mixKind X.prog X.w) (kvs := prs) hP (I.ok.hd hcalm) hok ⟨hkl.symm, fun i key v e => ?_⟩ (by rw [hkl, hl]; exact hz) fun h' tk hd' hk => ?_
  · obtain ⟨q, b, h1, h2, h3, h4, h5⟩ := hat i key v e
    exact ⟨q.1, by rw [h1, ← h2], h5⟩
  · have hkk : ∀ b o, s.heap.get? b = some o → h'.get? b = some o := fun b o e => hk b o (by simp) e
    have hm : (s.heap.objs.size == sysModules) = false := beq_eq_false_iff_ne.mpr (Nat.ne_of_gt I.big)
    have hlen : (mergeK [] kvs).length ≤ sizeLine := by
      refine Nat.le_trans (length_mergeK kvs []) ?_
      rw [List.length_nil, Nat.zero_add, rel.length, hl]
      exact hz
    exact ⟨.ref s.heap.objs.size, upd H s.heap.objs.size (.dK (mergeK [] kvs)), I.laid (t' := tk) hkk (Nat.le_refl _) (show ObjOk X.prog X.w _ _ _ (.dK (mergeK [] kvs)) from ⟨hlen, hm, merged [] prs, KV.merge rel .nil, hd'⟩), rfl, q _ (I.hok.fresh (Nat.le_refl _))⟩
theorem pairs_repK {K : PySem.W.Frag} {H G : Hp} (s : Same G H) : ∀ {vs : List V} {xs : List D} {ps : List (D × D)}, Reps K G vs xs → pairsOf xs = some ps → (ps.all fun p => fitK false p.1) = true →
    ∃ (ts : List Addr) (kvs : List (Key × V)), vs = ts.map V.ref ∧ Paired (fun p kv => SqT K H p [kV kv.1, kv.2]) ts kvs ∧ kvs.length = ps.length ∧
      ∀ (acc : List (Key × V)) (ds : List (D × D)), RepK K G acc ds → RepK K G (mergeK acc kvs) (ps.foldl (fun acc p => putD acc p.1 p.2) ds)
  | vs, [], ps, r, e, _ => by
    have : vs = [] := List.length_eq_zero_iff.mp r.1
    subst this
    simp only [pairsOf, Option.some.injEq] at e
    subst e
    exact ⟨[], [], rfl, .nil, rfl, fun acc ds q => q⟩
  | vs, x :: xs, ps, r, e, hf => by
    obtain ⟨v, ws, rfl, r1, r2⟩ := r.consOf
    unfold pairsOf at e
    split at e
    · rename_i heq; cases heq
    · rename_i k d rest heq
      cases heq
      obtain ⟨ps', e', rfl⟩ := Option.map_eq_some_iff.mp e
      rw [List.all_cons, Bool.and_eq_true] at hf
      obtain ⟨ts, kvs, t1, t2, t3, t4⟩ := pairs_repK s r2 e' hf.2
      subst t1
      cases r1 with
      | @tup T ob vs2 _ g od l q =>
        obtain ⟨vk, ws2, rfl, k1, k2⟩ := Reps.consOf (show Reps K G vs2 [k, d] from ⟨l, q⟩)
        obtain ⟨vd, ws3, rfl, d1, d2⟩ := k2.consOf
        have : ws3 = [] := List.length_eq_zero_iff.mp d2.1
        subst this
        obtain ⟨kk, rfl, rfl⟩ := flat_key (H := H) hf.1 (.inl k1)
        exact ⟨T :: ts, (kk, vd) :: kvs, rfl, .cons (.inl (.inr ⟨ob, s _ _ g⟩)) t2, by simp [t3], fun acc ds qq => t4 _ _ (repK_put qq d1)⟩
    · cases e
section
variable {X : Cx} {ea : EA} {W : WX} {e a b : Expr} {p pos : Pos} {f g : EX}
/-- dict(t), t a tuple of pairs -/
theorem b_dpairsK (hc : X.calm = true) (hm : X.mg "dict" = none) (ha : EB X ea W a f) (h : glB X "dict" = true := by kernel_rfl) (he : starEach (a :: []) X.env = (false, eval a X.env) :: starEach [] X.env := by rfl) :
    EF X ea W (.Call (.Name "dict" p) [a] [] pos) (un dPairsT f) := by
  refine PE.imp (pe_callTy (call_dictTu hc) (glB_of h).gl hm boot_dict (pa_cons ha pa_nil he) (glB_of h).d2 (glB_of h).d1 he rfl) fun σ H Q ⟨ρ, G, ok, q⟩ => ?_
  refine ⟨ρ, G, ok, q.bind fun d v H1 G1 x1 m1 q1 => ?_⟩
  have q2 := q1.extF x1
  unfold dPairsT at q2
  split at q2
  · split at q2
    · rename_i xs ps hk
      split at q2
      · rename_i hb
        rw [Bool.and_eq_true, decide_eq_true_eq] at hb
        have m1' := m1.rep rfl
        cases m1' with
        | tupK _ _ => simp [pairsOf] at hk
        | @tup pa ob vs _ gp od l r =>
          obtain ⟨ts, kvs, rfl, t2, t3, t4⟩ := pairs_repK x1.gh ⟨l, r⟩ hk hb.1
          exact ⟨pa, ob, ts, kvs, rfl, x1.gh _ _ gp, od, t2, fun p0 hp0 => q2 _ _ G1 (Ext.newO x1.gh hp0) (.inr ⟨p0, rfl, hp0, same_none x1.gh hp0, .dk upd_same (t4 [] [] ⟨rfl, fun i p q e _ => by simp at e⟩)⟩)⟩
      · exact q2.elim
    · exact q2.elim
  · exact q2.elim
end
end SR

set_option linter.all false
set_option autoImplicit false
set_option Elab.async false
set_option maxRecDepth 100000
set_option maxHeartbeats 1000000
/-! pure functions of the defs, printed by gen.py -/
namespace SR
def t_SIZES : List (Txt × D) := [([121, 101, 115], .int 1), ([110, 111], .int 1), ([115, 97, 121, 115], .int 2), ([110, 111, 116], .int 2), ([97, 110, 100], .int 3), ([111, 114], .int 3), ([109, 97, 110, 121], .int 4)]

def p_is_within : List D → Res D := runB 3 (sRet (andE (un (dIsi .int) (var 0)) (andE (notE (tst (un (dIsi .bool) (var 0)))) (chainE dLe dLe (var 1) (var 0) (var 2)))))

def p_is_row : List D → Res D := runB 4 (sSeq (sIf (orT (notT (tst (un (dIsi .tuple) (var 1)))) (tst (comp (src (var 1)) [2] (gSet 2) (notT (tst (callE p_is_within (acons (var 2) (acons (con (.int 0)) (acons (bin dSub (var 0) (con (.int 1))) anil)))))) (var 2))))
  (sRet (con (.bl false)))
  sNx)
  (sRet (notE (tst (comp (srcZip (var 1) (cutE (var 1) (some (con (.int 1))) none)) [2, 3] (gTup [2, 3]) (tstB (bin dGe (var 2) (var 3))) (con (.int 1)))))))

def p_is_saying : Nat → List D → Res D
  | 0 => fun _ => .bad
  | n + 1 => runB 4 (sSeq (sIf (orT (tstB (bin dEq (var 2) (con (.int 0)))) (orT (notT (tst (un (dIsi .tuple) (var 1)))) (orT (notT (tst (var 1))) (notT (tst (un (dIsi .str) (bin dIx (var 1) (con (.int 0)))))))))
  (sRet (con (.bl false)))
  sNx)
  (sSeq (sIf (tstB (bin dNe (un dLen (var 1)) (bin (dKGet t_SIZES) (bin dIx (var 1) (con (.int 0))) (con (.int 0)))))
  (sRet (con (.bl false)))
  sNx)
  (sSeq (sIf (tstB (bin dEq (bin dIx (var 1) (con (.int 0))) (con (.str [115, 97, 121, 115]))))
  (sRet (callE p_is_within (acons (bin dIx (var 1) (con (.int 1))) (acons (con (.int 0)) (acons (bin dSub (var 0) (con (.int 1))) anil)))))
  sNx)
  (sSeq (sIf (tstB (bin dEq (bin dIx (var 1) (con (.int 0))) (con (.str [109, 97, 110, 121]))))
  (sRet (andE (callE p_is_within (acons (bin dIx (var 1) (con (.int 1))) (acons (con (.int 0)) (acons (var 0) anil)))) (andE (callE p_is_within (acons (bin dIx (var 1) (con (.int 2))) (acons (bin dIx (var 1) (con (.int 1))) (acons (var 0) anil)))) (callE p_is_row (acons (var 0) (acons (bin dIx (var 1) (con (.int 3))) anil))))))
  sNx)
  (sRet (notE (tst (comp (src (cutE (var 1) (some (con (.int 1))) none)) [3] (gSet 3) (notT (tst (callE (p_is_saying n) (acons (var 0) (acons (var 3) (acons (bin dSub (var 2) (con (.int 1))) anil)))))) (var 3)))))))))

def p_is_book : List D → Res D := runB 2 (sSeq (sIf (orT (notT (tst (un (dIsi .tuple) (var 0)))) (notT (tstB (chainE dLe dLe (con (.int 1)) (un dLen (var 0)) (con (.int 6))))))
  (sRet (con (.bl false)))
  sNx)
  (sRet (notE (tst (comp (src (var 0)) [1] (gSet 1) (notT (tst (callE (p_is_saying 6) (acons (un dLen (var 0)) (acons (var 1) (acons (con (.int 4)) anil)))))) (var 1))))))

def p_is_telling : List D → Res D := runB 3 (sSeq (sIf (orT (notT (tst (un (dIsi .str) (var 1)))) (tstB (bin dNe (un dLen (var 1)) (un dLen (var 0)))))
  (sRet (con (.bl false)))
  sNx)
  (sRet (notE (tst (comp (src (var 1)) [2] (gSet 2) (tstB (bin dNotIn (var 2) (con (.str [102, 110, 116])))) (var 2))))))

def p_turned : List D → Res D := runB 1 (sRet (bin dIx (dctE (pcons (con (.str [116])) (con (.str [102])) (pcons (con (.str [102])) (con (.str [116])) (pcons (con (.str [110])) (con (.str [110])) pnil)))) (var 0)))

def p_of_many : List D → Res D := runB 5 (sSeq (sSet 3 (meth isL dCount (var 2) (con (.str [116]))))
  (sSeq (sSet 4 (bin dAdd (var 3) (meth isL dCount (var 2) (con (.str [110])))))
  (sSeq (sIf (andT (tstB (bin dLe (var 0) (var 3))) (tstB (bin dLe (var 4) (var 1))))
  (sRet (con (.str [116])))
  sNx)
  (sSeq (sIf (orT (tstB (bin dLt (var 4) (var 0))) (tstB (bin dGt (var 3) (var 1))))
  (sRet (con (.str [102])))
  sNx)
  (sRet (con (.str [110])))))))

def p_worth_of : Nat → List D → Res D
  | 0 => fun _ => .bad
  | n + 1 => runB 5 (sSeq (sSet 2 (bin dIx (var 1) (con (.int 0))))
  (sSeq (sIf (tstB (bin dEq (var 2) (con (.str [121, 101, 115]))))
  (sRet (con (.str [116])))
  sNx)
  (sSeq (sIf (tstB (bin dEq (var 2) (con (.str [110, 111]))))
  (sRet (con (.str [102])))
  sNx)
  (sSeq (sIf (tstB (bin dEq (var 2) (con (.str [115, 97, 121, 115]))))
  (sRet (bin dIx (var 0) (bin dIx (var 1) (con (.int 1)))))
  sNx)
  (sSeq (sIf (tstB (bin dEq (var 2) (con (.str [110, 111, 116]))))
  (sRet (callE p_turned (acons (callE (p_worth_of n) (acons (var 0) (acons (bin dIx (var 1) (con (.int 1))) anil))) anil)))
  sNx)
  (sSeq (sIf (tstB (bin dEq (var 2) (con (.str [109, 97, 110, 121]))))
  (sRet (callE p_of_many (acons (bin dIx (var 1) (con (.int 1))) (acons (bin dIx (var 1) (con (.int 2))) (acons (comp (src (bin dIx (var 1) (con (.int 3)))) [4] (gSet 4) yes (bin dIx (var 0) (var 4))) anil)))))
  sNx)
  (sSeq (sSet 3 (lstE (acons (callE (p_worth_of n) (acons (var 0) (acons (bin dIx (var 1) (con (.int 1))) anil))) (acons (callE (p_worth_of n) (acons (var 0) (acons (bin dIx (var 1) (con (.int 2))) anil))) anil))))
  (sSeq (sIf (tstB (bin dEq (var 2) (con (.str [97, 110, 100]))))
  (sRet (callE p_of_many (acons (con (.int 2)) (acons (con (.int 2)) (acons (var 3) anil)))))
  sNx)
  (sRet (callE p_of_many (acons (con (.int 1)) (acons (con (.int 2)) (acons (var 3) anil)))))))))))))

def p_next_of : List D → Res D := runB 3 (sRet (meth isS dJoin (con (.str [])) (comp (src (var 0)) [2] (gSet 2) yes (callE (p_worth_of 6) (acons (var 1) (acons (var 2) anil))))))

def p_look : List D → Res D := runB 1 (sIf (notT (tst (callE p_is_book (acons (var 0) anil))))
  (sRs .badBook)
  sNx)

def p_look_telling : List D → Res D := runB 2 (sIf (notT (tst (callE p_is_telling (acons (var 0) (acons (var 1) anil)))))
  (sRs .badTelling)
  sNx)

def p_next_telling : List D → Res D := runB 2 (sSeq (sExp (callE p_look (acons (var 0) anil)))
  (sSeq (sExp (callE p_look_telling (acons (var 0) (acons (var 1) anil))))
  (sRet (callE p_next_of (acons (var 0) (acons (var 1) anil))))))

def p_is_steady : List D → Res D := runB 2 (sSeq (sExp (callE p_look (acons (var 0) anil)))
  (sRet (andE (callE p_is_telling (acons (var 0) (acons (var 1) anil))) (bin dEq (callE p_next_of (acons (var 0) (acons (var 1) anil))) (var 1)))))

def p_lies_below : List D → Res D := runB 4 (sRet (notE (tst (comp (srcZip (var 0) (var 1)) [2, 3] (gTup [2, 3]) (tstB (bin dNotIn (var 2) (tupE (acons (con (.str [110])) (acons (var 3) anil))))) (con (.int 1))))))

def p_is_below : List D → Res D := runB 3 (sSeq (sExp (callE p_look (acons (var 0) anil)))
  (sSeq (sExp (callE p_look_telling (acons (var 0) (acons (var 1) anil))))
  (sSeq (sExp (callE p_look_telling (acons (var 0) (acons (var 2) anil))))
  (sRet (callE p_lies_below (acons (var 1) (acons (var 2) anil)))))))

def p_rounds_from_b0 : SX := (sApp 2 (callE p_next_of (acons (var 0) (acons (bin dIx (varB 2) (un dNeg (con (.int 1)))) anil))))
def p_rounds_from : List D → Res D := runB 3 (sSeq (sOwn 2 (lstE (acons (var 1) anil)))
  (sSeq (sWhile 1000 (tstB (bin dNe (callE p_next_of (acons (var 0) (acons (bin dIx (varB 2) (un dNeg (con (.int 1)))) anil))) (bin dIx (varB 2) (un dNeg (con (.int 1))))))
  p_rounds_from_b0)
  (sRetV 2)))

def p_rounds : List D → Res D := runB 1 (sSeq (sExp (callE p_look (acons (var 0) anil)))
  (sRet (callE p_rounds_from (acons (var 0) (acons (bin dMul (con (.str [110])) (un dLen (var 0))) anil)))))

def p_least : List D → Res D := runB 1 (sRet (bin dIx (callE p_rounds (acons (var 0) anil)) (un dNeg (con (.int 1)))))

def p_grown : List D → Res D := runB 2 (sSeq (sExp (callE p_look (acons (var 0) anil)))
  (sSeq (sExp (callE p_look_telling (acons (var 0) (acons (var 1) anil))))
  (sSeq (sIf (notT (tst (callE p_lies_below (acons (var 1) (acons (callE p_next_of (acons (var 0) (acons (var 1) anil))) anil)))))
  (sRs .notSound)
  sNx)
  (sRet (bin dIx (callE p_rounds_from (acons (var 0) (acons (var 1) anil))) (un dNeg (con (.int 1))))))))

def p_could_be : List D → Res D := runB 6 (sSeq (sSet 3 (meth isS dJoin (con (.str [])) (comp (srcR1 (un dLen (var 0))) [5] (gSet 5) yes (meth2 isDct dGet (var 1) (var 5) (con (.str [110]))))))
  (sSeq (sSet 4 (callE (p_worth_of 6) (acons (var 3) (acons (bin dIx (var 0) (var 2)) anil))))
  (sRet (andE (bin dIn (var 4) (tupE (acons (con (.str [110])) (acons (bin dIx (var 1) (var 2)) anil)))) (orE (bin dNe (bin dIx (var 1) (var 2)) (con (.str [110]))) (bin dEq (var 4) (con (.str [110]))))))))

def p_all_of_b0 : SX := (sSeq (sSet 6 (bin dAdd (var 4) (var 5)))
  (sSeq (sSet 7 (un dEnum (var 6)))
  (sIf (notT (tst (comp (src (var 7)) [8] (gSet 8) (notT (tst (callE p_could_be (acons (var 0) (acons (var 7) (acons (var 8) anil)))))) (var 8))))
  (sApp 3 (var 6))
  sNx)))
def p_all_of_b1 : SX := (sFor (src (con (.str [102, 110, 116]))) (gSet 5)
  p_all_of_b0)
def p_all_of_b2 : SX := (sSeq (sOwn 3 (lstE anil))
  (sSeq (sFor (src (var 1)) (gSet 4)
  p_all_of_b1)
  (sMv 1 3)))
def p_all_of : List D → Res D := runB 9 (sSeq (sSet 1 (lstE (acons (con (.str [])) anil)))
  (sSeq (sFor (srcR1 (un dLen (var 0))) (gSet 2)
  p_all_of_b2)
  (sRet (comp (src (var 1)) [4] (gSet 4) (tstB (bin dEq (callE p_next_of (acons (var 0) (acons (var 4) anil))) (var 4))) (var 4)))))

def p_all_steady : List D → Res D := runB 1 (sSeq (sExp (callE p_look (acons (var 0) anil)))
  (sRet (callE p_all_of (acons (var 0) anil))))

def p_whole_ones : List D → Res D := runB 2 (sSeq (sExp (callE p_look (acons (var 0) anil)))
  (sRet (comp (src (callE p_all_of (acons (var 0) anil))) [1] (gSet 1) (tstB (bin dNotIn (con (.str [110])) (var 1))) (var 1))))

def p_highest : List D → Res D := runB 4 (sSeq (sExp (callE p_look (acons (var 0) anil)))
  (sSeq (sSet 1 (callE p_all_of (acons (var 0) anil)))
  (sRet (comp (src (var 1)) [2] (gSet 2) (notT (tst (comp (src (var 1)) [3] (gSet 3) (andT (tstB (bin dNe (var 3) (var 2))) (tst (callE p_lies_below (acons (var 2) (acons (var 3) anil))))) (var 3)))) (var 2)))))

def p_go_together : List D → Res D := runB 4 (sRet (notE (tst (comp (srcZip (var 0) (var 1)) [2, 3] (gTup [2, 3]) (andT (tstB (bin dNotIn (con (.str [110])) (tupE (acons (var 2) (acons (var 3) anil))))) (tstB (bin dNe (var 2) (var 3)))) (con (.int 1))))))

def p_settled_b0 : SX := (sIf (notT (tst (comp (src (var 2)) [4] (gSet 4) (notT (tst (callE p_lies_below (acons (var 4) (acons (var 3) anil))))) (var 4))))
  (sRet (var 3))
  sNx)
def p_settled : List D → Res D := runB 5 (sSeq (sExp (callE p_look (acons (var 0) anil)))
  (sSeq (sSet 1 (callE p_all_of (acons (var 0) anil)))
  (sSeq (sSet 2 (comp (src (var 1)) [3] (gSet 3) (notT (tst (comp (src (var 1)) [4] (gSet 4) (notT (tst (callE p_go_together (acons (var 3) (acons (var 4) anil))))) (var 4)))) (var 3)))
  (sSeq (sFor (src (var 2)) (gSet 3)
  p_settled_b0)
  (sRet (con .non))))))

def p_spoken_b0 (self : List D → Res D) : SX := (sExt 1 (callE self (acons (var 2) anil)))
def p_spoken : Nat → List D → Res D
  | 0 => fun _ => .bad
  | n + 1 => runB 3 (sSeq (sIf (tstB (bin dEq (bin dIx (var 0) (con (.int 0))) (con (.str [115, 97, 121, 115]))))
  (sRet (lstE (acons (bin dIx (var 0) (con (.int 1))) anil)))
  sNx)
  (sSeq (sIf (tstB (bin dEq (bin dIx (var 0) (con (.int 0))) (con (.str [109, 97, 110, 121]))))
  (sRet (un dList (bin dIx (var 0) (con (.int 3)))))
  sNx)
  (sSeq (sOwn 1 (lstE anil))
  (sSeq (sFor (src (cutE (var 0) (some (con (.int 1))) none)) (gSet 2)
  (p_spoken_b0 (p_spoken n)))
  (sRetF 1)))))

def p_reach_of_b0 : SX := (sSeq (sPop 4 3)
  (sIf (tstB (bin dNotIn (var 4) (varB 2)))
  (sSeq (sApp 2 (var 4))
  (sExt 3 (callE (p_spoken 6) (acons (bin dIx (var 0) (var 4)) anil))))
  sNx))
def p_reach_of : List D → Res D := runB 5 (sSeq (sOwn 2 (lstE anil))
  (sSeq (sOwn 3 (callE (p_spoken 6) (acons (bin dIx (var 0) (var 1)) anil)))
  (sSeq (sWhile 1000 (tst (varB 3))
  p_reach_of_b0)
  (sRet (un dSort (varB 2))))))

def p_look_number : List D → Res D := runB 2 (sIf (notT (tst (callE p_is_within (acons (var 1) (acons (con (.int 0)) (acons (bin dSub (un dLen (var 0)) (con (.int 1))) anil))))))
  (sRs .badSaying)
  sNx)

def p_reach : List D → Res D := runB 2 (sSeq (sExp (callE p_look (acons (var 0) anil)))
  (sSeq (sExp (callE p_look_number (acons (var 0) (acons (var 1) anil))))
  (sRet (callE p_reach_of (acons (var 0) (acons (var 1) anil))))))

def p_worths : List D → Res D := runB 5 (sSeq (sExp (callE p_look (acons (var 0) anil)))
  (sSeq (sExp (callE p_look_number (acons (var 0) (acons (var 1) anil))))
  (sSeq (sSet 2 (comp (src (callE p_all_of (acons (var 0) anil))) [3] (gSet 3) yes (bin dIx (var 3) (var 1))))
  (sRet (meth isS dJoin (con (.str [])) (comp (src (con (.str [102, 110, 116]))) [4] (gSet 4) (tstB (bin dIn (var 4) (var 2))) (var 4)))))))

def p_kind : List D → Res D := runB 2 (sSeq (sExp (callE p_look (acons (var 0) anil)))
  (sSeq (sExp (callE p_look_number (acons (var 0) (acons (var 1) anil))))
  (sSeq (sIf (tstB (bin dNe (bin dIx (callE p_least (acons (var 0) anil)) (var 1)) (con (.str [110]))))
  (sRet (con (.str [103, 114, 111, 117, 110, 100, 101, 100])))
  sNx)
  (sRet (bin dIx (dctE (pcons (con (.str [110])) (con (.str [112, 97, 114, 97, 100, 111, 120])) (pcons (con (.str [102, 110, 116])) (con (.str [102, 114, 101, 101])) (pcons (con (.str [102, 110])) (con (.str [108, 101, 97, 110, 105, 110, 103])) (pcons (con (.str [110, 116])) (con (.str [108, 101, 97, 110, 105, 110, 103])) pnil))))) (callE p_worths (acons (var 0) (acons (var 1) anil))))))))

def p_grounds_b0 : SX := (sExt 3 (comp (srcR1 (un dLen (var 0))) [6] (gSet 6) (andT (tstB (bin dEq (bin dIx (var 4) (var 6)) (con (.str [110])))) (tstB (bin dNe (bin dIx (var 5) (var 6)) (con (.str [110]))))) (tupE (acons (var 6) (acons (bin dIx (var 5) (var 6)) anil)))))
def p_grounds : List D → Res D := runB 7 (sSeq (sExp (callE p_look (acons (var 0) anil)))
  (sSeq (sExp (callE p_look_number (acons (var 0) (acons (var 1) anil))))
  (sSeq (sSet 2 (callE p_rounds (acons (var 0) anil)))
  (sSeq (sIf (tstB (bin dEq (bin dIx (bin dIx (var 2) (un dNeg (con (.int 1)))) (var 1)) (con (.str [110]))))
  (sRet (con .non))
  sNx)
  (sSeq (sOwn 3 (lstE anil))
  (sSeq (sFor (srcZip (var 2) (cutE (var 2) (some (con (.int 1))) none)) (gTup [4, 5])
  p_grounds_b0)
  (sRet (cutE (varB 3) none (some (bin dAdd (meth isL dLIx (varB 3) (tupE (acons (var 1) (acons (bin dIx (bin dIx (var 2) (un dNeg (con (.int 1)))) (var 1)) anil)))) (con (.int 1))))))))))))

def p_is_grounds_b0 : SX := (sSeq (sIf (orT (notT (tst (un (dIsi .tuple) (var 4)))) (orT (tstB (bin dNe (un dLen (var 4)) (con (.int 2)))) (notT (tst (callE p_is_within (acons (bin dIx (var 4) (con (.int 0))) (acons (con (.int 0)) (acons (bin dSub (un dLen (var 0)) (con (.int 1))) anil))))))))
  (sRet (con (.bl false)))
  sNx)
  (sSeq (sIf (orT (notT (tst (un (dIsi .str) (bin dIx (var 4) (con (.int 1)))))) (orT (tstB (bin dNotIn (bin dIx (var 4) (con (.int 1))) (tupE (acons (con (.str [116])) (acons (con (.str [102])) anil))))) (tstB (bin dNe (callE (p_worth_of 6) (acons (var 3) (acons (bin dIx (var 0) (bin dIx (var 4) (con (.int 0)))) anil))) (bin dIx (var 4) (con (.int 1)))))))
  (sRet (con (.bl false)))
  sNx)
  (sSet 3 (bin dAdd (bin dAdd (cutE (var 3) none (some (bin dIx (var 4) (con (.int 0))))) (bin dIx (var 4) (con (.int 1)))) (cutE (var 3) (some (bin dAdd (bin dIx (var 4) (con (.int 0))) (con (.int 1)))) none)))))
def p_is_grounds : List D → Res D := runB 5 (sSeq (sExp (callE p_look (acons (var 0) anil)))
  (sSeq (sExp (callE p_look_number (acons (var 0) (acons (var 1) anil))))
  (sSeq (sIf (orT (notT (tst (un (dIsi .list) (var 2)))) (notT (tst (var 2))))
  (sRet (con (.bl false)))
  sNx)
  (sSeq (sSet 3 (bin dMul (con (.str [110])) (un dLen (var 0))))
  (sSeq (sFor (src (var 2)) (gSet 4)
  p_is_grounds_b0)
  (sRet (bin dEq (bin dIx (bin dIx (var 2) (un dNeg (con (.int 1)))) (con (.int 0))) (var 1))))))))

def p_alike : List D → Res D := runB 2 (sSeq (sExp (callE p_look (acons (var 0) anil)))
  (sSeq (sExp (callE p_look (acons (var 1) anil)))
  (sSeq (sIf (tstB (bin dNe (un dLen (var 0)) (un dLen (var 1))))
  (sRs .unlike)
  sNx)
  (sRet (bin dEq (callE p_all_of (acons (var 0) anil)) (callE p_all_of (acons (var 1) anil)))))))

def p_parts : List D → Res D := runB 6 (sSeq (sExp (callE p_look (acons (var 0) anil)))
  (sSeq (sExp (callE p_look (acons (var 1) anil)))
  (sSeq (sIf (tstB (bin dNe (un dLen (var 0)) (un dLen (var 1))))
  (sRs .unlike)
  sNx)
  (sSeq (sSet 2 (callE p_all_of (acons (var 0) anil)))
  (sSeq (sSet 3 (callE p_all_of (acons (var 1) anil)))
  (sSeq (sSet 4 (un dSort (bin dAdd (comp (src (var 2)) [5] (gSet 5) (tstB (bin dNotIn (var 5) (var 3))) (var 5)) (comp (src (var 3)) [5] (gSet 5) (tstB (bin dNotIn (var 5) (var 2))) (var 5)))))
  (sRet (ifE (tst (var 4)) (bin dIx (var 4) (con (.int 0))) (con .non)))))))))

def p_sums_of_b0 : SX := (sPut 3 (tupE (acons (bin dAdd (var 4) (un dInt (bin dEq (var 6) (con (.str [116]))))) (acons (bin dAdd (var 5) (un dInt (bin dEq (var 6) (con (.str [110]))))) anil))) (con (.bl true)))
def p_sums_of_b1 : SX := (sFor (src (var 2)) (gSet 6)
  p_sums_of_b0)
def p_sums_of_b2 : SX := (sSeq (sOwn 3 (con (.dct true [])))
  (sSeq (sFor (src (var 1)) (gTup [4, 5])
  p_sums_of_b1)
  (sMv 1 3)))
def p_sums_of : List D → Res D := runB 7 (sSeq (sSet 1 (dctTE (pcons (tupE (acons (con (.int 0)) (acons (con (.int 0)) anil))) (con (.bl true)) pnil)))
  (sSeq (sFor (src (var 0)) (gSet 2)
  p_sums_of_b2)
  (sRet (var 1))))

def p_may_be : Nat → List D → Res D
  | 0 => fun _ => .bad
  | n + 1 => runB 12 (sSeq (sSet 2 (bin dIx (var 1) (con (.int 0))))
  (sSeq (sIf (tstB (bin dIn (var 2) (tupE (acons (con (.str [121, 101, 115])) (acons (con (.str [110, 111])) anil)))))
  (sRet (callE (p_worth_of 6) (acons (con (.str [])) (acons (var 1) anil))))
  sNx)
  (sSeq (sIf (tstB (bin dEq (var 2) (con (.str [115, 97, 121, 115]))))
  (sRet (meth2 isDct dGet (var 0) (bin dIx (var 1) (con (.int 1))) (con (.str [102, 110, 116]))))
  sNx)
  (sSeq (sIf (tstB (bin dEq (var 2) (con (.str [110, 111, 116]))))
  (sRet (meth isS dJoin (con (.str [])) (un dSort (comp (src (callE (p_may_be n) (acons (var 0) (acons (bin dIx (var 1) (con (.int 1))) anil)))) [11] (gSet 11) yes (callE p_turned (acons (var 11) anil))))))
  sNx)
  (sSeq (sIf (tstB (bin dEq (var 2) (con (.str [109, 97, 110, 121]))))
  (sSeq (sUnp (gTup [3, 4]) (tupE (acons (bin dIx (var 1) (con (.int 1))) (acons (bin dIx (var 1) (con (.int 2))) anil))))
  (sSet 5 (comp (src (bin dIx (var 1) (con (.int 3)))) [9] (gSet 9) yes (meth2 isDct dGet (var 0) (var 9) (con (.str [102, 110, 116]))))))
  (sSeq (sUnp (gTup [3, 4]) (ifE (tstB (bin dEq (var 2) (con (.str [97, 110, 100])))) (tupE (acons (con (.int 2)) (acons (con (.int 2)) anil))) (tupE (acons (con (.int 1)) (acons (con (.int 2)) anil)))))
  (sSet 5 (comp (src (cutE (var 1) (some (con (.int 1))) none)) [10] (gSet 10) yes (callE (p_may_be n) (acons (var 0) (acons (var 10) anil)))))))
  (sSeq (sSet 6 (comp (src (callE p_sums_of (acons (var 5) anil))) [7, 8] (gTup [7, 8]) yes (callE p_of_many (acons (var 3) (acons (var 4) (acons (bin dAdd (bin dAdd (bin dMul (lstE (acons (con (.str [116])) anil)) (var 7)) (bin dMul (lstE (acons (con (.str [110])) anil)) (var 8))) (bin dMul (lstE (acons (con (.str [102])) anil)) (con (.int 9)))) anil))))))
  (sRet (meth isS dJoin (con (.str [])) (comp (src (con (.str [102, 110, 116]))) [11] (gSet 11) (tstB (bin dIn (var 11) (var 6))) (var 11))))))))))

def p_bars : List D → Res D := runB 3 (sRet (andE (bin dIn (var 2) (var 1)) (bin dNotIn (bin dIx (var 1) (var 2)) (callE (p_may_be 6) (acons (var 1) (acons (bin dIx (var 0) (var 2)) anil))))))

def p_look_worth : List D → Res D := runB 1 (sIf (orT (notT (tst (un (dIsi .str) (var 0)))) (orT (tstB (bin dNe (un dLen (var 0)) (con (.int 1)))) (tstB (bin dNotIn (var 0) (con (.str [102, 110, 116]))))))
  (sRs .badWorth)
  sNx)

def p_paper_in_b0 (self : List D → Res D) : SX := (sIf (tst (callE p_bars (acons (var 0) (acons (var 1) (acons (var 2) anil)))))
  (sRet (tupE (acons (con (.str [111, 117, 116])) (acons (var 2) anil))))
  sNx)
def p_paper_in_b1 (self : List D → Res D) : SX := (sSeq (sOwn 6 (un dCopy (var 1)))
  (sSeq (sPut 6 (var 3) (var 5))
  (sSeq (sPin 6) (sApp 4 (callE self (acons (var 0) (acons (var 6) anil)))))))
def p_paper_in : Nat → List D → Res D
  | 0 => fun _ => .bad
  | n + 1 => runB 7 (sSeq (sFor (src (un dSort (var 1))) (gSet 2)
  (p_paper_in_b0 (p_paper_in n)))
  (sSeq (sSet 3 (bin dIx (comp (srcR1 (un dLen (var 0))) [2] (gSet 2) (tstB (bin dNotIn (var 2) (var 1))) (var 2)) (con (.int 0))))
  (sSeq (sOwn 4 (lstE anil))
  (sSeq (sFor (src (con (.str [102, 110, 116]))) (gSet 5)
  (p_paper_in_b1 (p_paper_in n)))
  (sRet (tupE (acons (con (.str [99, 97, 115, 101, 115])) (acons (var 3) (acons (bin dIx (varB 4) (con (.int 0))) (acons (bin dIx (varB 4) (con (.int 1))) (acons (bin dIx (varB 4) (con (.int 2))) anil)))))))))))

def p_paper : List D → Res D := runB 4 (sSeq (sExp (callE p_look (acons (var 0) anil)))
  (sSeq (sExp (callE p_look_number (acons (var 0) (acons (var 1) anil))))
  (sSeq (sExp (callE p_look_worth (acons (var 2) anil)))
  (sSeq (sIf (tst (comp (src (callE p_all_of (acons (var 0) anil))) [3] (gSet 3) (tstB (bin dEq (bin dIx (var 3) (var 1)) (var 2))) (var 3)))
  (sRet (con .non))
  sNx)
  (sRet (callE (p_paper_in 9) (acons (var 0) (acons (dctE (pcons (var 1) (var 2) pnil)) anil))))))))

def p_is_right_b0 (self : List D → Res D) : SX := (sSeq (sOwn 5 (un dCopy (var 1)))
  (sSeq (sPut 5 (bin dIx (var 2) (con (.int 1))) (var 3))
  (sSeq (sPin 5) (sIf (notT (tst (callE self (acons (var 0) (acons (var 5) (acons (var 4) anil))))))
  (sRet (con (.bl false)))
  sNx))))
def p_is_right : Nat → List D → Res D
  | 0 => fun _ => .bad
  | n + 1 => runB 6 (sSeq (sIf (orT (notT (tst (un (dIsi .tuple) (var 2)))) (orT (tstB (bin dLt (un dLen (var 2)) (con (.int 2)))) (notT (tst (un (dIsi .str) (bin dIx (var 2) (con (.int 0))))))))
  (sRet (con (.bl false)))
  sNx)
  (sSeq (sIf (notT (tst (callE p_is_within (acons (bin dIx (var 2) (con (.int 1))) (acons (con (.int 0)) (acons (bin dSub (un dLen (var 0)) (con (.int 1))) anil))))))
  (sRet (con (.bl false)))
  sNx)
  (sSeq (sIf (tstB (bin dEq (bin dIx (var 2) (con (.int 0))) (con (.str [111, 117, 116]))))
  (sRet (andE (bin dEq (un dLen (var 2)) (con (.int 2))) (callE p_bars (acons (var 0) (acons (var 1) (acons (bin dIx (var 2) (con (.int 1))) anil))))))
  sNx)
  (sSeq (sIf (orT (tstB (bin dNe (bin dIx (var 2) (con (.int 0))) (con (.str [99, 97, 115, 101, 115])))) (orT (tstB (bin dNe (un dLen (var 2)) (con (.int 5)))) (tstB (bin dIn (bin dIx (var 2) (con (.int 1))) (var 1)))))
  (sRet (con (.bl false)))
  sNx)
  (sSeq (sFor (srcZip (con (.str [102, 110, 116])) (cutE (var 2) (some (con (.int 2))) none)) (gTup [3, 4])
  (p_is_right_b0 (p_is_right n)))
  (sRet (con (.bl true))))))))

def p_is_paper : List D → Res D := runB 4 (sSeq (sExp (callE p_look (acons (var 0) anil)))
  (sSeq (sExp (callE p_look_number (acons (var 0) (acons (var 1) anil))))
  (sSeq (sExp (callE p_look_worth (acons (var 2) anil)))
  (sRet (callE (p_is_right 9) (acons (var 0) (acons (dctE (pcons (var 1) (var 2) pnil)) (acons (var 3) anil))))))))

def p_written : Nat → List D → Res D
  | 0 => fun _ => .bad
  | n + 1 => runB 3 (sSeq (sIf (tstB (bin dEq (bin dIx (var 0) (con (.int 0))) (con (.str [115, 97, 121, 115]))))
  (sRet (bin dAdd (con (.str [35])) badE))
  sNx)
  (sSeq (sIf (tstB (bin dEq (bin dIx (var 0) (con (.int 0))) (con (.str [109, 97, 110, 121]))))
  (sRet (bin dAdd (bin dAdd (bin dAdd (bin dAdd (bin dAdd badE (con (.str [45]))) badE) (con (.str [91]))) (meth isS dJoin (con (.str [])) (comp (src (bin dIx (var 0) (con (.int 3)))) [2] (gSet 2) yes badE))) (con (.str [93]))))
  sNx)
  (sSeq (sIf (tstB (bin dEq (bin dIx (var 0) (con (.int 0))) (con (.str [110, 111, 116]))))
  (sRet (bin dAdd (con (.str [33])) (callE (p_written n) (acons (bin dIx (var 0) (con (.int 1))) anil))))
  sNx)
  (sSeq (sIf (tstB (bin dIn (bin dIx (var 0) (con (.int 0))) (tupE (acons (con (.str [97, 110, 100])) (acons (con (.str [111, 114])) anil)))))
  (sSeq (sSet 1 (bin dIx (dctE (pcons (con (.str [97, 110, 100])) (con (.str [38])) (pcons (con (.str [111, 114])) (con (.str [124])) pnil))) (bin dIx (var 0) (con (.int 0)))))
  (sRet (bin dAdd (bin dAdd (bin dAdd (bin dAdd (con (.str [40])) (callE (p_written n) (acons (bin dIx (var 0) (con (.int 1))) anil))) (var 1)) (callE (p_written n) (acons (bin dIx (var 0) (con (.int 2))) anil))) (con (.str [41])))))
  sNx)
  (sRet (bin dIx (var 0) (con (.int 0))))))))

def p_shown : List D → Res D := runB 2 (sSeq (sExp (callE p_look (acons (var 0) anil)))
  (sRet (meth isS dJoin (con (.str [10])) (comp (src (var 0)) [1] (gSet 1) yes (callE (p_written 6) (acons (var 1) anil))))))

def p_worth : List D → Res D := runB 3 (sSeq (sExp (callE p_look (acons (var 0) anil)))
  (sSeq (sExp (callE p_look_telling (acons (var 0) (acons (var 1) anil))))
  (sSeq (sIf (notT (tst (callE (p_is_saying 6) (acons (un dLen (var 0)) (acons (var 2) (acons (con (.int 4)) anil))))))
  (sRs .badSaying)
  sNx)
  (sRet (callE (p_worth_of 6) (acons (var 1) (acons (var 2) anil)))))))

def t_SAYINGS : List (Txt × D) := [([116], .tup [.str [121, 101, 115]]), ([102], .tup [.str [110, 111]])]

def p__wall_b0 : SX := sNx
def p__wall : List D → Res D := runB 1 (sWhile 1000 (tst (con (.bl true)))
  p__wall_b0)

def p_always_against_b0 : SX := (sIf (notT (tst (comp (src (var 1)) [5] (gSet 5) (tstB (bin dNe (bin dIx (var 5) (var 4)) (callE p_turned (acons (bin dIx (var 5) (var 3)) anil)))) (con (.int 1)))))
  (sApp 2 (tupE (acons (var 4) (acons (var 3) anil))))
  sNx)
def p_always_against_b1 : SX := (sFor (srcR1 (var 3)) (gSet 4)
  p_always_against_b0)
def p_always_against : List D → Res D := runB 6 (sSeq (sExp (callE p_look (acons (var 0) anil)))
  (sSeq (sSet 1 (callE p_all_of (acons (var 0) anil)))
  (sSeq (sOwn 2 (lstE anil))
  (sSeq (sFor (srcR1 (un dLen (var 0))) (gSet 3)
  p_always_against_b1)
  (sRet (un dSort (varB 2)))))))

def p_sure : List D → Res D := runB 4 (sSeq (sExp (callE p_look (acons (var 0) anil)))
  (sSeq (sExp (callE p_look_number (acons (var 0) (acons (var 1) anil))))
  (sSeq (sSet 2 (un dSSet (comp (src (callE p_all_of (acons (var 0) anil))) [3] (gSet 3) yes (bin dIx (var 3) (var 1)))))
  (sRet (ifE (tstB (bin dEq (un dLen (var 2)) (con (.int 1)))) (bin dIx (var 2) (con (.int 0))) (con .non))))))

def p_led : Nat → List D → Res D
  | 0 => fun _ => .bad
  | n + 1 => runB 4 (sSeq (sIf (tstB (bin dEq (bin dIx (var 0) (con (.int 0))) (con (.str [115, 97, 121, 115]))))
  (sRet (tupE (acons (con (.str [115, 97, 121, 115])) (acons (bin dIx (var 1) (bin dIx (var 0) (con (.int 1)))) anil))))
  sNx)
  (sSeq (sIf (tstB (bin dEq (bin dIx (var 0) (con (.int 0))) (con (.str [109, 97, 110, 121]))))
  (sRet (bin dAdd (cutE (var 0) none (some (con (.int 3)))) (tupE (acons (un dTuple (un dSort (comp (src (bin dIx (var 0) (con (.int 3)))) [3] (gSet 3) yes (bin dIx (var 1) (var 3))))) anil))))
  sNx)
  (sRet (bin dAdd (cutE (var 0) none (some (con (.int 1)))) (un dTuple (comp (src (cutE (var 0) (some (con (.int 1))) none)) [2] (gSet 2) yes (callE (p_led n) (acons (var 2) (acons (var 1) anil)))))))))

def p_side_by_side : List D → Res D := runB 4 (sSeq (sExp (callE p_look (acons (var 0) anil)))
  (sSeq (sExp (callE p_look (acons (var 1) anil)))
  (sSeq (sIf (tstB (bin dGt (bin dAdd (un dLen (var 0)) (un dLen (var 1))) (con (.int 6))))
  (sRs .tooDeep)
  sNx)
  (sRet (bin dAdd (var 0) (un dTuple (comp (src (var 1)) [2] (gSet 2) yes (callE (p_led 6) (acons (var 2) (acons (comp (srcR1 (un dLen (var 1))) [3] (gSet 3) yes (bin dAdd (var 3) (un dLen (var 0)))) anil))))))))))

def p_about : Nat → List D → Res D
  | 0 => fun _ => .bad
  | n + 1 => runB 4 (sSeq (sSet 1 (bin dIx (var 0) (con (.int 0))))
  (sSeq (sIf (tstB (bin dIn (var 1) (tupE (acons (con (.str [121, 101, 115])) (acons (con (.str [110, 111])) anil)))))
  (sRet (ifE (tstB (bin dEq (var 1) (con (.str [121, 101, 115])))) (tupE (acons (con (.str [110, 111])) anil)) (tupE (acons (con (.str [121, 101, 115])) anil))))
  sNx)
  (sSeq (sIf (tstB (bin dEq (var 1) (con (.str [115, 97, 121, 115]))))
  (sRet (var 0))
  sNx)
  (sSeq (sIf (tstB (bin dEq (var 1) (con (.str [109, 97, 110, 121]))))
  (sSeq (sSet 2 (un dLen (bin dIx (var 0) (con (.int 3)))))
  (sSeq (sIf (tstB (bin dGt (bin dIx (var 0) (con (.int 1))) (var 2)))
  (sRet (tupE (acons (con (.str [121, 101, 115])) anil)))
  sNx)
  (sRet (tupE (acons (con (.str [110, 111, 116])) (acons (tupE (acons (con (.str [109, 97, 110, 121])) (acons (bin dMax2 (con (.int 0)) (bin dSub (var 2) (bin dIx (var 0) (con (.int 2))))) (acons (bin dSub (var 2) (bin dIx (var 0) (con (.int 1)))) (acons (bin dIx (var 0) (con (.int 3))) anil))))) anil))))))
  sNx)
  (sSeq (sSet 1 (bin dIx (dctE (pcons (con (.str [110, 111, 116])) (con (.str [110, 111, 116])) (pcons (con (.str [97, 110, 100])) (con (.str [111, 114])) (pcons (con (.str [111, 114])) (con (.str [97, 110, 100])) pnil)))) (var 1)))
  (sRet (bin dAdd (tupE (acons (var 1) anil)) (un dTuple (comp (src (cutE (var 0) (some (con (.int 1))) none)) [3] (gSet 3) yes (callE (p_about n) (acons (var 3) anil)))))))))))

def p_turned_about : List D → Res D := runB 3 (sSeq (sExp (callE p_look (acons (var 0) anil)))
  (sSeq (sSet 1 (un dTuple (comp (src (var 0)) [2] (gSet 2) yes (callE (p_about 6) (acons (var 2) anil)))))
  (sSeq (sIf (notT (tst (callE p_is_book (acons (var 1) anil))))
  (sRs .tooDeep)
  sNx)
  (sRet (var 1)))))

def p_put : List D → Res D := runB 3 (sSeq (sExp (callE p_look (acons (var 0) anil)))
  (sSeq (sExp (callE p_look_number (acons (var 0) (acons (var 1) anil))))
  (sSeq (sIf (notT (tst (callE (p_is_saying 6) (acons (un dLen (var 0)) (acons (var 2) (acons (con (.int 4)) anil))))))
  (sRs .badSaying)
  sNx)
  (sRet (bin dAdd (bin dAdd (cutE (var 0) none (some (var 1))) (tupE (acons (var 2) anil))) (cutE (var 0) (some (bin dAdd (var 1) (con (.int 1)))) none))))))

def p_course_of_b0 : SX := (sApp 2 (callE p_next_of (acons (var 0) (acons (bin dIx (varB 2) (un dNeg (con (.int 1)))) anil))))
def p_course_of : List D → Res D := runB 6 (sSeq (sOwn 2 (lstE (acons (var 1) anil)))
  (sSeq (sWhile 1000 (tstB (bin dNotIn (callE p_next_of (acons (var 0) (acons (bin dIx (varB 2) (un dNeg (con (.int 1)))) anil))) (varB 2)))
  p_course_of_b0)
  (sSeq (sSet 3 (meth isL dLIx (varB 2) (callE p_next_of (acons (var 0) (acons (bin dIx (varB 2) (un dNeg (con (.int 1)))) anil)))))
  (sSeq (sSet 4 (cutE (varB 2) (some (var 3)) none))
  (sSeq (sSet 5 (meth isL dLIx (var 4) (un dMinL (var 4))))
  (sRet (tupE (acons (var 3) (acons (bin dAdd (cutE (var 4) (some (var 5)) none) (cutE (var 4) none (some (var 5)))) anil)))))))))

def p_course : List D → Res D := runB 2 (sSeq (sExp (callE p_look (acons (var 0) anil)))
  (sSeq (sExp (callE p_look_telling (acons (var 0) (acons (var 1) anil))))
  (sRet (callE p_course_of (acons (var 0) (acons (var 1) anil))))))

def p_all_tellings_b0 : SX := (sExt 3 (comp (src (con (.str [102, 110, 116]))) [5] (gSet 5) yes (bin dAdd (var 4) (var 5))))
def p_all_tellings_b1 : SX := (sSeq (sOwn 3 (lstE anil))
  (sSeq (sFor (src (var 1)) (gSet 4)
  p_all_tellings_b0)
  (sMv 1 3)))
def p_all_tellings : List D → Res D := runB 6 (sSeq (sSet 1 (lstE (acons (con (.str [])) anil)))
  (sSeq (sFor (srcR1 (var 0)) (gSet 2)
  p_all_tellings_b1)
  (sRet (var 1))))

def p_longest_way : List D → Res D := runB 4 (sSeq (sExp (callE p_look (acons (var 0) anil)))
  (sSeq (sSet 1 (comp (src (callE p_all_tellings (acons (un dLen (var 0)) anil))) [3] (gSet 3) yes (tupE (acons (un dNeg (bin dIx (callE p_course_of (acons (var 0) (acons (var 3) anil))) (con (.int 0)))) (acons (var 3) anil)))))
  (sSeq (sUnp (gTup [2, 3]) (un dMinL (var 1)))
  (sRet (tupE (acons (un dNeg (var 2)) (acons (var 3) anil)))))))

def p_with_known_b0 : SX := (sPut 0 (var 2) (un (dKIx t_SAYINGS) (var 3)))
def p_with_known : List D → Res D := runB 4 (sSeq (sOwn 0 (un dList (varB 0)))
  (sSeq (sFor (src (var 1)) (gTup [2, 3])
  p_with_known_b0)
  (sRet (un dTuple (varB 0)))))

def p_grounded_of : List D → Res D := runB 3 (sSeq (sSet 2 (callE p_with_known (acons (var 0) (acons (var 1) anil))))
  (sRet (bin dIx (callE p_rounds_from (acons (var 2) (acons (bin dMul (con (.str [110])) (un dLen (var 2))) anil))) (un dNeg (con (.int 1))))))

def p_look_known_b0 : SX := (sSeq (sIf (orT (notT (tst (un (dIsi .tuple) (var 3)))) (orT (tstB (bin dNe (un dLen (var 3)) (con (.int 2)))) (notT (tst (callE p_is_within (acons (bin dIx (var 3) (con (.int 0))) (acons (bin dAdd (var 2) (con (.int 1))) (acons (bin dSub (un dLen (var 0)) (con (.int 1))) anil))))))))
  (sRs .badOrder)
  sNx)
  (sSeq (sIf (orT (notT (tst (un (dIsi .str) (bin dIx (var 3) (con (.int 1)))))) (tstB (un (dKNotIn t_SAYINGS) (bin dIx (var 3) (con (.int 1))))))
  (sRs .badOrder)
  sNx)
  (sSet 2 (bin dIx (var 3) (con (.int 0))))))
def p_look_known : List D → Res D := runB 4 (sSeq (sIf (notT (tst (un (dIsi .tuple) (var 1))))
  (sRs .badOrder)
  sNx)
  (sSeq (sSet 2 (un dNeg (con (.int 1))))
  (sFor (src (var 1)) (gSet 3)
  p_look_known_b0)))

def p_grounded_by : List D → Res D := runB 2 (sSeq (sExp (callE p_look (acons (var 0) anil)))
  (sSeq (sExp (callE p_look_known (acons (var 0) (acons (var 1) anil))))
  (sRet (callE p_grounded_of (acons (var 0) (acons (var 1) anil))))))

def p_all_known_b0 : SX := (sSeq (sSet 3 (comp (src (var 1)) [4] (gSet 4) yes (bin dAdd (var 4) (tupE (acons (tupE (acons (var 2) (acons (con (.str [102])) anil))) anil)))))
  (sSet 1 (bin dAdd (bin dAdd (var 1) (var 3)) (comp (src (var 1)) [4] (gSet 4) yes (bin dAdd (var 4) (tupE (acons (tupE (acons (var 2) (acons (con (.str [116])) anil))) anil)))))))
def p_all_known : List D → Res D := runB 5 (sSeq (sSet 1 (lstE (acons (tupE anil) anil)))
  (sSeq (sFor (srcR1 (var 0)) (gSet 2)
  p_all_known_b0)
  (sRet (var 1))))

def p_fewest_known_b0 : SX := (sIf (tstB (bin dNotIn (con (.str [110])) (callE p_grounded_of (acons (var 0) (acons (var 2) anil)))))
  (sApp 1 (tupE (acons (un dLen (var 2)) (acons (var 2) anil))))
  sNx)
def p_fewest_known : List D → Res D := runB 3 (sSeq (sExp (callE p_look (acons (var 0) anil)))
  (sSeq (sOwn 1 (lstE anil))
  (sSeq (sFor (src (callE p_all_known (acons (un dLen (var 0)) anil))) (gSet 2)
  p_fewest_known_b0)
  (sRet (bin dIx (un dMinL (varB 1)) (con (.int 1)))))))

def p_renumbered : List D → Res D := runB 4 (sSeq (sExp (callE p_look (acons (var 0) anil)))
  (sSeq (sIf (orT (notT (tst (un (dIsi .tuple) (var 1)))) (tst (comp (src (var 1)) [3] (gSet 3) (notT (tst (callE p_is_within (acons (var 3) (acons (con (.int 0)) (acons (bin dSub (un dLen (var 0)) (con (.int 1))) anil)))))) (var 3))))
  (sRs .badOrder)
  sNx)
  (sSeq (sIf (tstB (bin dNe (un dSortS (var 1)) (lstRg (srcR1 (un dLen (var 0))))))
  (sRs .badOrder)
  sNx)
  (sSeq (sSet 2 (comp (srcR1 (un dLen (var 0))) [3] (gSet 3) yes (meth isTuI dTIx (var 1) (var 3))))
  (sRet (un dTuple (comp (src (var 1)) [3] (gSet 3) yes (callE (p_led 6) (acons (bin dIx (var 0) (var 3)) (acons (var 2) anil))))))))))

def p_always_alike_b0 : SX := (sSeq (sSet 4 (meth isS dJoin (con (.str [])) (comp (src (var 1)) [5] (gSet 5) yes (bin dIx (var 5) (var 3)))))
  (sPut 2 (var 4) (bin dAdd (meth2 isDct dGet (varB 2) (var 4) (tupE anil)) (tupE (acons (var 3) anil)))))
def p_always_alike : List D → Res D := runB 6 (sSeq (sExp (callE p_look (acons (var 0) anil)))
  (sSeq (sSet 1 (callE p_all_of (acons (var 0) anil)))
  (sSeq (sOwn 2 (con (.dct false [])))
  (sSeq (sFor (srcR1 (un dLen (var 0))) (gSet 3)
  p_always_alike_b0)
  (sRet (sortVals 2))))))

def p_basins_b0 : SX := (sSeq (sSet 3 (un dTuple (bin dIx (callE p_course_of (acons (var 0) (acons (var 2) anil))) (con (.int 1)))))
  (sPut 1 (var 3) (bin dAdd (meth2 isDct dGet (varB 1) (var 3) (con (.int 0))) (con (.int 1)))))
def p_basins : List D → Res D := runB 4 (sSeq (sExp (callE p_look (acons (var 0) anil)))
  (sSeq badS
  (sSeq (sFor (src (callE p_all_tellings (acons (un dLen (var 0)) anil))) (gSet 2)
  p_basins_b0)
  (sRet badE))))
end SR

set_option linter.all false
set_option autoImplicit false
set_option Elab.async false
set_option maxRecDepth 100000
set_option maxHeartbeats 1000000
/-! pure functions of the defs, printed by gen.py -/
namespace SR
def l_cell : List D → Res D := runB 2 (sSeq (sIf (tstB (bin dLt (var 1) (un dLen (var 0))))
  (sRet (bin dIx (var 0) (var 1)))
  sNx)
  (sRet (con (.int 0))))

def l_seed : List D → Res D := runB 2 (sRet (bin dMod (bin dPow (bin dMod (bin dAdd (bin dAdd (bin dMul (var 0) (con (.int 1103515245))) (bin dMul (con (.int 7919)) (var 1))) (con (.int 12345))) (con (.int 2147483647))) (con (.int 5))) (con (.int 2147483647))))

def l_pick : List D → Res D := runB 2 (sRet (bin dMod (bin dDiv (var 0) (con (.int 97))) (var 1)))

def l_saying : Nat → List D → Res D
  | 0 => fun _ => .bad
  | n + 1 => runB 7 (sSeq (sSet 3 (callE l_pick (acons (var 0) (acons (con (.int 12)) anil))))
  (sSeq (sIf (andT (tstB (bin dGt (var 2) (con (.int 1)))) (tstB (bin dLt (var 3) (con (.int 7)))))
  (sSeq (sSet 4 (callE (l_saying n) (acons (callE l_seed (acons (var 0) (acons (con (.int 1)) anil))) (acons (var 1) (acons (bin dSub (var 2) (con (.int 1))) anil)))))
  (sSeq (sIf (tstB (bin dLt (var 3) (con (.int 3))))
  (sRet (tupE (acons (con (.str [110, 111, 116])) (acons (var 4) anil))))
  sNx)
  (sRet (tupE (acons (bin dIx (lstE (acons (con (.str [97, 110, 100])) (acons (con (.str [111, 114])) anil))) (bin dMod (var 3) (con (.int 2)))) (acons (var 4) (acons (callE (l_saying n) (acons (callE l_seed (acons (var 0) (acons (con (.int 2)) anil))) (acons (var 1) (acons (bin dSub (var 2) (con (.int 1))) anil)))) anil)))))))
  sNx)
  (sSeq (sIf (tstB (bin dLt (var 3) (con (.int 10))))
  (sRet (tupE (acons (con (.str [115, 97, 121, 115])) (acons (bin dMod (bin dDiv (var 0) (con (.int 7))) (var 1)) anil))))
  sNx)
  (sSeq (sIf (tstB (bin dEq (var 3) (con (.int 10))))
  (sRet (tupE (acons (bin dIx (lstE (acons (con (.str [121, 101, 115])) (acons (con (.str [110, 111])) anil))) (bin dMod (bin dDiv (var 0) (con (.int 7))) (con (.int 2)))) anil)))
  sNx)
  (sSeq (sSet 5 (bin dMod (bin dDiv (var 0) (con (.int 7))) (bin dAdd (var 1) (con (.int 1)))))
  (sSeq (sSet 6 (un dTuple (comp (srcR1 (var 1)) [4] (gSet 4) (tstB (bin dGt (bin dMod (bin dDiv (callE l_seed (acons (var 0) (acons (var 4) anil))) (con (.int 5))) (con (.int 3))) (con (.int 0)))) (var 4))))
  (sRet (tupE (acons (con (.str [109, 97, 110, 121])) (acons (var 5) (acons (bin dAdd (var 5) (bin dMod (bin dDiv (var 0) (con (.int 11))) (bin dSub (bin dAdd (var 1) (con (.int 1))) (var 5)))) (acons (var 6) anil))))))))))))

def l_book_b0 : SX := (sSeq (sSet 6 (callE l_seed (acons (bin dAdd (callE l_cell (acons (var 0) (acons (bin dAdd (bin dAdd (var 1) (con (.int 1))) (bin dMod (var 5) (con (.int 3)))) anil))) (bin dMul (con (.int 41)) (var 5))) (acons (var 5) anil))))
  (sApp 4 (callE (l_saying 6) (acons (var 6) (acons (var 3) (acons (bin dIx (lstE (acons (con (.int 4)) (acons (con (.int 2)) (acons (con (.int 3)) (acons (con (.int 1)) anil))))) (bin dMod (bin dDiv (var 6) (con (.int 13))) (con (.int 4)))) anil))))))
def l_book : List D → Res D := runB 7 (sSeq (sSet 2 (callE l_seed (acons (callE l_cell (acons (var 0) (acons (var 1) anil))) (acons (con (.int 0)) anil))))
  (sSeq (sSet 3 (bin dIx (lstE (acons (bin dAdd (con (.int 1)) (bin dMod (bin dDiv (var 2) (con (.int 5))) (con (.int 6)))) (acons (con (.int 3)) (acons (con (.int 4)) (acons (con (.int 6)) anil))))) (bin dMod (bin dDiv (var 2) (con (.int 7))) (con (.int 4)))))
  (sSeq (sOwn 4 (lstE anil))
  (sSeq (sFor (srcR1 (var 3)) (gSet 5)
  l_book_b0)
  (sRet (un dTuple (varB 4)))))))

def l_counted_b0 : SX := (sSet 6 (bin dAdd (var 6) (comp (src (var 5)) [9] (gSet 9) yes (bin dAdd (var 7) (var 9)))))
def l_counted_b1 : SX := (sSeq (sSet 5 (bin dIx (dctE (pcons (con (.str [116])) (lstE (acons (con (.int 1)) anil)) (pcons (con (.str [102])) (lstE (acons (con (.int 0)) anil)) (pcons (con (.str [110])) (lstE (acons (con (.int 0)) (acons (con (.int 1)) anil))) pnil)))) (var 4)))
  (sSeq (sSet 6 (lstE anil))
  (sSeq (sFor (src (var 3)) (gSet 7)
  l_counted_b0)
  (sSet 3 (var 6)))))
def l_counted : List D → Res D := runB 10 (sSeq (sSet 3 (lstE (acons (con (.int 0)) anil)))
  (sSeq (sFor (src (var 2)) (gSet 4)
  l_counted_b1)
  (sSeq (sSet 8 (un dSSet (comp (src (var 3)) [7] (gSet 7) yes (chainE dLe dLe (var 0) (var 7) (var 1)))))
  (sRet (ifE (tstB (bin dEq (un dLen (var 8)) (con (.int 2)))) (con (.str [110])) (bin dIx (con (.str [102, 116])) (un dInt (bin dIx (var 8) (con (.int 0))))))))))

def l_worth : Nat → List D → Res D
  | 0 => fun _ => .bad
  | n + 1 => runB 6 (sSeq (sSet 2 (bin dIx (var 1) (con (.int 0))))
  (sSeq (sIf (tstB (bin dIn (var 2) (tupE (acons (con (.str [121, 101, 115])) (acons (con (.str [110, 111])) anil)))))
  (sRet (bin dIx (con (.str [102, 116])) (un dInt (bin dEq (var 2) (con (.str [121, 101, 115]))))))
  sNx)
  (sSeq (sIf (tstB (bin dEq (var 2) (con (.str [115, 97, 121, 115]))))
  (sRet (bin dIx (var 0) (bin dIx (var 1) (con (.int 1)))))
  sNx)
  (sSeq (sIf (tstB (bin dEq (var 2) (con (.str [109, 97, 110, 121]))))
  (sRet (callE l_counted (acons (bin dIx (var 1) (con (.int 1))) (acons (bin dIx (var 1) (con (.int 2))) (acons (comp (src (bin dIx (var 1) (con (.int 3)))) [5] (gSet 5) yes (bin dIx (var 0) (var 5))) anil)))))
  sNx)
  (sSeq (sSet 3 (comp (src (cutE (var 1) (some (con (.int 1))) none)) [4] (gSet 4) yes (callE (l_worth n) (acons (var 0) (acons (var 4) anil)))))
  (sSeq (sIf (tstB (bin dEq (var 2) (con (.str [110, 111, 116]))))
  (sRet (bin dIx (con (.str [116, 110, 102])) (meth isS dSIndex (con (.str [102, 110, 116])) (bin dIx (var 3) (con (.int 0))))))
  sNx)
  (sRet (callE l_counted (acons (ifE (tstB (bin dEq (var 2) (con (.str [97, 110, 100])))) (con (.int 2)) (con (.int 1))) (acons (con (.int 2)) (acons (var 3) anil)))))))))))

def l_next : List D → Res D := runB 3 (sRet (meth isS dJoin (con (.str [])) (comp (src (var 0)) [2] (gSet 2) yes (callE (l_worth 6) (acons (var 1) (acons (var 2) anil))))))

def l_back : Nat → List D → Res D
  | 0 => fun _ => .bad
  | n + 1 => runB 6 (sSeq (sIf (tstB (bin dEq (bin dIx (var 0) (con (.int 0))) (con (.str [115, 97, 121, 115]))))
  (sRet (tupE (acons (con (.str [115, 97, 121, 115])) (acons (bin dMod (bin dIx (var 0) (con (.int 1))) (var 1)) anil))))
  sNx)
  (sSeq (sIf (tstB (bin dEq (bin dIx (var 0) (con (.int 0))) (con (.str [109, 97, 110, 121]))))
  (sSeq (sPar [2, 3] (acons (bin dMin2 (bin dIx (var 0) (con (.int 1))) (var 1)) (acons (bin dMin2 (bin dIx (var 0) (con (.int 2))) (var 1)) anil)))
  (sRet (tupE (acons (con (.str [109, 97, 110, 121])) (acons (var 2) (acons (var 3) (acons (un dTuple (comp (src (bin dIx (var 0) (con (.int 3)))) [5] (gSet 5) (tstB (bin dLt (var 5) (var 1))) (var 5))) anil)))))))
  sNx)
  (sRet (bin dAdd (cutE (var 0) none (some (con (.int 1)))) (un dTuple (comp (src (cutE (var 0) (some (con (.int 1))) none)) [4] (gSet 4) yes (callE (l_back n) (acons (var 4) (acons (var 1) anil)))))))))

def l_cut_b0 : SX := (sApp 2 (callE (l_back 8) (acons (var 3) (acons (un dLen (cutE (var 0) none (some (var 1)))) anil))))
def l_cut : List D → Res D := runB 4 (sSeq (sOwn 2 (lstE anil))
  (sSeq (sFor (src (cutE (var 0) none (some (var 1)))) (gSet 3)
  l_cut_b0)
  (sRet (un dTuple (varB 2)))))

def l_grounded_b0 : SX := (sSet 4 (callE l_next (acons (var 3) (acons (var 4) anil))))
def l_grounded : List D → Res D := runB 7 (sSeq (sSet 2 (un dPairsT (var 1)))
  (sSeq (sSet 3 (un dTuple (comp (srcEnum (var 0)) [5, 6] (gTup [5, 6]) yes (ifE (tstB (bin dIn (var 5) (var 2))) (tupE (acons (bin dIx (lstE (acons (con (.str [110, 111])) (acons (con (.str [121, 101, 115])) anil))) (meth isS dSIndex (con (.str [102, 116])) (bin dIx (var 2) (var 5)))) anil)) (var 6)))))
  (sSeq (sSet 4 (bin dMul (con (.str [110])) (un dLen (var 3))))
  (sSeq (sWhile 1000 (tstB (bin dNe (callE l_next (acons (var 3) (acons (var 4) anil))) (var 4)))
  l_grounded_b0)
  (sRet (var 4))))))

def l_all_known_b0 : SX := (sSet 1 (bin dAdd (bin dAdd (var 1) (comp (src (var 1)) [3] (gSet 3) yes (bin dAdd (var 3) (tupE (acons (tupE (acons (var 2) (acons (con (.str [102])) anil))) anil))))) (comp (src (var 1)) [3] (gSet 3) yes (bin dAdd (var 3) (tupE (acons (tupE (acons (var 2) (acons (con (.str [116])) anil))) anil))))))
def l_all_known : List D → Res D := runB 4 (sSeq (sSet 1 (lstE (acons (tupE anil) anil)))
  (sSeq (sFor (srcR1 (var 0)) (gSet 2)
  l_all_known_b0)
  (sRet (var 1))))

def l_known : List D → Res D := runB 3 (sRet (un dTuple (comp (srcR1 (var 1)) [2] (gSet 2) (tstB (bin dEq (bin dMod (bin dAdd (bin dDiv (var 0) (con (.int 7))) (var 2)) (con (.int 3))) (con (.int 0)))) (tupE (acons (var 2) (acons (bin dIx (con (.str [102, 116])) (callE l_pick (acons (callE l_seed (acons (var 0) (acons (var 2) anil))) (acons (con (.int 2)) anil)))) anil))))))

def l_told_of : List D → Res D := runB 3 (sSeq (sIf (tstB (bin dLt (var 0) (con (.int 5))))
  (sSeq (sIf (tstB (bin dLt (var 0) (con (.int 3))))
  (sRet (ifE (tstB (bin dEq (var 0) (con (.int 0)))) (callE p_course (acons (var 1) (acons (var 2) anil))) (ifE (tstB (bin dEq (var 0) (con (.int 1)))) (callE p_basins (acons (var 1) anil)) (callE p_longest_way (acons (var 1) anil)))))
  sNx)
  (sRet (ifE (tstB (bin dEq (var 0) (con (.int 3)))) (callE p_renumbered (acons (var 1) (acons (var 2) anil))) (callE p_side_by_side (acons (var 1) (acons (var 2) anil))))))
  sNx)
  (sSeq (sIf (tstB (bin dLt (var 0) (con (.int 8))))
  (sSeq (sIf (tstB (bin dEq (var 0) (con (.int 5))))
  (sRet (callE p_turned_about (acons (var 1) anil)))
  sNx)
  (sRet (ifE (tstB (bin dEq (var 0) (con (.int 6)))) (callE p_put (acons (var 1) (acons (bin dIx (var 2) (con (.int 0))) (acons (bin dIx (var 2) (con (.int 1))) anil)))) (callE p_always_alike (acons (var 1) anil)))))
  sNx)
  (sSeq (sIf (tstB (bin dLt (var 0) (con (.int 10))))
  (sRet (ifE (tstB (bin dEq (var 0) (con (.int 8)))) (callE p_always_against (acons (var 1) anil)) (callE p_sure (acons (var 1) (acons (var 2) anil)))))
  sNx)
  (sRet (ifE (tstB (bin dEq (var 0) (con (.int 10)))) (callE p_grounded_by (acons (var 1) (acons (var 2) anil))) (ifE (tstB (bin dEq (var 0) (con (.int 11)))) (callE p_fewest_known (acons (var 1) anil)) badE))))))

def l_told_word : List D → Res D := runB 4 (sSeq (sSet 3 (con (.str [])))
  (sSeq (sTry [.sayError, .badBook, .badTelling, .badSaying, .badOrder, .tooDeep] (sExp (callE l_told_of (acons (var 0) (acons (var 1) (acons (var 2) anil))))) ((.badBook, (sSet 3 (con (.str [98, 111, 111, 107])))) :: ((.badTelling, (sSet 3 (con (.str [116, 101, 108, 108, 105, 110, 103])))) :: ((.badSaying, (sSet 3 (con (.str [115, 97, 121, 105, 110, 103])))) :: ((.badOrder, (sSet 3 (con (.str [111, 114, 100, 101, 114])))) :: ((.tooDeep, (sSet 3 (con (.str [100, 101, 101, 112])))) :: []))))))
  (sRet (var 3))))

def law_b0 : SX := (sIf (tstB (bin dNotIn (con (.str [110])) (callE l_grounded (acons (var 5) (acons (var 6) anil)))))
  (sApp 4 (tupE (acons (un dLen (var 6)) (acons (var 6) anil))))
  sNx)
def law_t0 : SX := (sRet (bin dEq (callE l_told_word (acons (con (.int 10)) (acons (var 1) (acons (bin dIx (var 7) (bin dMod (callE l_cell (acons (var 0) (acons (con (.int 5)) anil))) (con (.int 8)))) anil)))) (con (.str [111, 114, 100, 101, 114]))))
def law_t1 : SX := (sSeq (sSet 7 (lstE (acons (con .non) (acons (tupE (acons (tupE (acons (var 2) (acons (con (.str [116])) anil))) anil)) (acons (tupE (acons (tupE (acons (con (.int 0)) (acons (con (.str [110])) anil))) anil)) (acons (lstE (acons (tupE (acons (con (.int 0)) (acons (con (.str [116])) anil))) anil)) (acons (tupE (acons (tupE (acons (con (.int 0)) (acons (con (.str [116])) anil))) (acons (tupE (acons (con (.int 0)) (acons (con (.str [116])) anil))) anil))) (acons (tupE (acons (tupE (acons (con (.int 0)) anil)) anil)) (acons (tupE (acons (tupE (acons (con (.bl true)) (acons (con (.str [116])) anil))) anil)) (acons (tupE (acons (con (.int 0)) (acons (con (.str [116])) anil))) anil))))))))))
  law_t0)
def law_t2 : SX := (sSeq (sIf (tstB (bin dNe (callE p_fewest_known (acons (var 5) anil)) (bin dIx (un dMinL (varB 4)) (con (.int 1)))))
  (sRet (con (.bl false)))
  sNx)
  law_t1)
def law_t3 : SX := (sSeq (sFor (src (callE l_all_known (acons (un dLen (var 5)) anil))) (gSet 6)
  law_b0)
  law_t2)
def law_t4 : SX := (sSeq (sSet 5 (callE l_cut (acons (var 1) (acons (con (.int 4)) anil))))
  law_t3)
def law_t5 : SX := (sSeq (sOwn 4 (lstE anil))
  law_t4)
def law_t6 : SX := (sSeq (sIf (tstB (bin dNe (callE p_grounded_by (acons (var 1) (acons (var 3) anil))) (callE l_grounded (acons (var 1) (acons (var 3) anil)))))
  (sRet (con (.bl false)))
  sNx)
  law_t5)
def law_t7 : SX := (sSeq (sSet 3 (callE l_known (acons (callE l_seed (acons (callE l_cell (acons (var 0) (acons (con (.int 4)) anil))) (acons (con (.int 1)) anil))) (acons (var 2) anil))))
  law_t6)
def law_t8 : SX := (sSeq (sSet 2 (un dLen (var 1)))
  law_t7)
def law : List D → Res D := runB 8 (sSeq (sSet 1 (callE l_book (acons (var 0) (acons (con (.int 0)) anil))))
  law_t8)
end SR

set_option linter.all false
set_option autoImplicit false
set_option Elab.async false
set_option maxRecDepth 100000
set_option maxHeartbeats 4000000
/-! the walk, printed by gen.py -/
namespace SR
open PySem PySem.Spec PyProof.Rows L2 TL RZ
def topS (i : Nat) : Stmt := PySem.Challenge.pw_saidround_k23_grounding.main.body.getD i (.Pass ⟨0, 0, 0, 0⟩)
/-- what the top has left -/
structure Tx (K : PySem.W.Frag) (mg : Str → Option Value) (w : World) (ea : EA) : Prop where
  m_bool : mg "bool" = none
  m_dict : mg "dict" = none
  m_enumerate : mg "enumerate" = none
  m_int : mg "int" = none
  m_isinstance : mg "isinstance" = none
  m_len : mg "len" = none
  m_list : mg "list" = none
  m_max : mg "max" = none
  m_min : mg "min" = none
  m_range : mg "range" = none
  m_set : mg "set" = none
  m_sorted : mg "sorted" = none
  m_str : mg "str" = none
  m_tuple : mg "tuple" = none
  m_zip : mg "zip" = none
  g_MOST_SAYINGS : ∃ t, mg "MOST_SAYINGS" = some (.int 6 t)
  g_MOST_DEEP : ∃ t, mg "MOST_DEEP" = some (.int 4 t)
  g_WORTHS : ∃ z t, mg "WORTHS" = some (.str z t) ∧ tl z = [102, 110, 116]
  k_SIZES : KTop K w mg "SIZES" t_SIZES
  k_SAYINGS : KTop K w mg "SAYINGS" t_SAYINGS
  e_SayError : ExcC K mg (ea .sayError) "SayError"
  e_BadBook : ExcC K mg (ea .badBook) "BadBook"
  e_BadTelling : ExcC K mg (ea .badTelling) "BadTelling"
  e_BadSaying : ExcC K mg (ea .badSaying) "BadSaying"
  e_BadOrder : ExcC K mg (ea .badOrder) "BadOrder"
  e_TooDeep : ExcC K mg (ea .tooDeep) "TooDeep"
  x_SayError_BadBook : PySem.W.exmOne K (.ref (ea .sayError)) (.ref (ea .badBook)) = some false
  x_BadBook_BadBook : PySem.W.exmOne K (.ref (ea .badBook)) (.ref (ea .badBook)) = some true
  x_BadTelling_BadBook : PySem.W.exmOne K (.ref (ea .badTelling)) (.ref (ea .badBook)) = some false
  x_BadSaying_BadBook : PySem.W.exmOne K (.ref (ea .badSaying)) (.ref (ea .badBook)) = some false
  x_BadOrder_BadBook : PySem.W.exmOne K (.ref (ea .badOrder)) (.ref (ea .badBook)) = some false
  x_TooDeep_BadBook : PySem.W.exmOne K (.ref (ea .tooDeep)) (.ref (ea .badBook)) = some false
  x_SayError_BadOrder : PySem.W.exmOne K (.ref (ea .sayError)) (.ref (ea .badOrder)) = some false
  x_BadBook_BadOrder : PySem.W.exmOne K (.ref (ea .badBook)) (.ref (ea .badOrder)) = some false
  x_BadTelling_BadOrder : PySem.W.exmOne K (.ref (ea .badTelling)) (.ref (ea .badOrder)) = some false
  x_BadSaying_BadOrder : PySem.W.exmOne K (.ref (ea .badSaying)) (.ref (ea .badOrder)) = some false
  x_BadOrder_BadOrder : PySem.W.exmOne K (.ref (ea .badOrder)) (.ref (ea .badOrder)) = some true
  x_TooDeep_BadOrder : PySem.W.exmOne K (.ref (ea .tooDeep)) (.ref (ea .badOrder)) = some false
  x_SayError_BadSaying : PySem.W.exmOne K (.ref (ea .sayError)) (.ref (ea .badSaying)) = some false
  x_BadBook_BadSaying : PySem.W.exmOne K (.ref (ea .badBook)) (.ref (ea .badSaying)) = some false
  x_BadTelling_BadSaying : PySem.W.exmOne K (.ref (ea .badTelling)) (.ref (ea .badSaying)) = some false
  x_BadSaying_BadSaying : PySem.W.exmOne K (.ref (ea .badSaying)) (.ref (ea .badSaying)) = some true
  x_BadOrder_BadSaying : PySem.W.exmOne K (.ref (ea .badOrder)) (.ref (ea .badSaying)) = some false
  x_TooDeep_BadSaying : PySem.W.exmOne K (.ref (ea .tooDeep)) (.ref (ea .badSaying)) = some false
  x_SayError_BadTelling : PySem.W.exmOne K (.ref (ea .sayError)) (.ref (ea .badTelling)) = some false
  x_BadBook_BadTelling : PySem.W.exmOne K (.ref (ea .badBook)) (.ref (ea .badTelling)) = some false
  x_BadTelling_BadTelling : PySem.W.exmOne K (.ref (ea .badTelling)) (.ref (ea .badTelling)) = some true
  x_BadSaying_BadTelling : PySem.W.exmOne K (.ref (ea .badSaying)) (.ref (ea .badTelling)) = some false
  x_BadOrder_BadTelling : PySem.W.exmOne K (.ref (ea .badOrder)) (.ref (ea .badTelling)) = some false
  x_TooDeep_BadTelling : PySem.W.exmOne K (.ref (ea .tooDeep)) (.ref (ea .badTelling)) = some false
  x_SayError_TooDeep : PySem.W.exmOne K (.ref (ea .sayError)) (.ref (ea .tooDeep)) = some false
  x_BadBook_TooDeep : PySem.W.exmOne K (.ref (ea .badBook)) (.ref (ea .tooDeep)) = some false
  x_BadTelling_TooDeep : PySem.W.exmOne K (.ref (ea .badTelling)) (.ref (ea .tooDeep)) = some false
  x_BadSaying_TooDeep : PySem.W.exmOne K (.ref (ea .badSaying)) (.ref (ea .tooDeep)) = some false
  x_BadOrder_TooDeep : PySem.W.exmOne K (.ref (ea .badOrder)) (.ref (ea .tooDeep)) = some false
  x_TooDeep_TooDeep : PySem.W.exmOne K (.ref (ea .tooDeep)) (.ref (ea .tooDeep)) = some true
  d__wall : DefK K mg "_wall" "_wall" (topS 0) ["k"]
  d_is_within : DefK K mg "is_within" "is_within" (topS 13) ["thing", "low", "high"]
  d_is_row : DefK K mg "is_row" "is_row" (topS 14) ["many", "thing"]
  d_is_saying : DefK K mg "is_saying" "is_saying" (topS 15) ["many", "thing", "deep"]
  d_is_book : DefK K mg "is_book" "is_book" (topS 16) ["thing"]
  d_look : DefK K mg "look" "look" (topS 17) ["thing"]
  d_is_telling : DefK K mg "is_telling" "is_telling" (topS 18) ["book", "thing"]
  d_look_telling : DefK K mg "look_telling" "look_telling" (topS 19) ["book", "thing"]
  d_look_number : DefK K mg "look_number" "look_number" (topS 20) ["book", "thing"]
  d_turned : DefK K mg "turned" "turned" (topS 21) ["worth"]
  d_of_many : DefK K mg "of_many" "of_many" (topS 22) ["low", "high", "worths"]
  d_worth_of : DefK K mg "worth_of" "worth_of" (topS 23) ["telling", "saying"]
  d_next_of : DefK K mg "next_of" "next_of" (topS 24) ["book", "telling"]
  d_rounds_from : DefK K mg "rounds_from" "rounds_from" (topS 26) ["book", "telling"]
  d_could_be : DefK K mg "could_be" "could_be" (topS 27) ["book", "known", "at"]
  d_all_of : DefK K mg "all_of" "all_of" (topS 28) ["book"]
  d_look_known : DefK K mg "look_known" "look_known" (topS 31) ["book", "known"]
  d_with_known : DefK K mg "with_known" "with_known" (topS 32) ["book", "known"]
  d_grounded_of : DefK K mg "grounded_of" "grounded_of" (topS 33) ["book", "known"]
  d_grounded_by : DefK K mg "grounded_by" "grounded_by" (topS 34) ["book", "known"]
  d_all_known : DefK K mg "all_known" "all_known" (topS 35) ["many"]
  d_fewest_known : DefK K mg "fewest_known" "fewest_known" (topS 36) ["book"]
  d_always_alike : DefK K mg "always_alike" "always_alike" (topS 38) ["book"]
  d_always_against : DefK K mg "always_against" "always_against" (topS 39) ["book"]
  d_sure : DefK K mg "sure" "sure" (topS 40) ["book", "number"]
  d_led : DefK K mg "led" "led" (topS 42) ["saying", "names"]
  d_renumbered : DefK K mg "renumbered" "renumbered" (topS 43) ["book", "order"]
  d_side_by_side : DefK K mg "side_by_side" "side_by_side" (topS 44) ["one", "other"]
  d_about : DefK K mg "about" "about" (topS 45) ["saying"]
  d_turned_about : DefK K mg "turned_about" "turned_about" (topS 46) ["book"]
  d_put : DefK K mg "put" "put" (topS 47) ["book", "number", "saying"]
  d_course_of : DefK K mg "course_of" "course_of" (topS 49) ["book", "telling"]
  d_course : DefK K mg "course" "course" (topS 50) ["book", "telling"]
  d_all_tellings : DefK K mg "all_tellings" "all_tellings" (topS 51) ["many"]
  d_basins : DefK K mg "basins" "basins" (topS 52) ["book"]
  d_longest_way : DefK K mg "longest_way" "longest_way" (topS 53) ["book"]
  d__law_cell : DefK K mg "_law_cell" "_law_cell" (topS 57) ["_law_script", "_law_k"]
  d__law_seed : DefK K mg "_law_seed" "_law_seed" (topS 58) ["_law_seed_here", "_law_k"]
  d__law_pick : DefK K mg "_law_pick" "_law_pick" (topS 59) ["_law_seed_here", "_law_many"]
  d__law_saying : DefK K mg "_law_saying" "_law_saying" (topS 60) ["_law_seed_here", "_law_many", "_law_deep"]
  d__law_book : DefK K mg "_law_book" "_law_book" (topS 61) ["_law_script", "_law_at"]
  d__law_counted : DefK K mg "_law_counted" "_law_counted" (topS 62) ["_law_low", "_law_high", "_law_signs_here"]
  d__law_worth : DefK K mg "_law_worth" "_law_worth" (topS 63) ["_law_telling", "_law_saying_here"]
  d__law_next : DefK K mg "_law_next" "_law_next" (topS 64) ["_law_book_here", "_law_telling"]
  d__law_back : DefK K mg "_law_back" "_law_back" (topS 66) ["_law_saying_here", "_law_many"]
  d__law_cut : DefK K mg "_law_cut" "_law_cut" (topS 65) ["_law_book_here", "_law_many"]
  d__law_grounded : DefK K mg "_law_grounded" "_law_grounded" (topS 67) ["_law_book_here", "_law_known_here"]
  d__law_all_known : DefK K mg "_law_all_known" "_law_all_known" (topS 68) ["_law_many"]
  d__law_known : DefK K mg "_law_known" "_law_known" (topS 69) ["_law_seed_here", "_law_many"]
  d__law_told_of : DefK K mg "_law_told_of" "_law_told_of" (topS 70) ["_law_way", "_law_book_here", "_law_thing"]
  d__law_told_word : DefK K mg "_law_told_word" "_law_told_word" (topS 71) ["_law_way", "_law_book_here", "_law_thing"]
  d_law : DefK K mg "law" "law" (topS 72) ["_law_script"]
section
variable {P : Program} {w : World} {K : PySem.W.Frag} {mg : Str → Option Value} {base : Heap} {ea : EA}
theorem F__wall (T : Tx K mg w ea) : Fn P w K mg base ea "_wall" (mG K) 1 ["k"] p__wall :=
  DefK.fn T.d__wall ["k"] 0 (goodG K) (fun nd f cdv A outer s H E hr tk po =>
    (ess_one (es_while po (et_tst (EF.toB ef_bl))
  (ess_one es_pass))))

theorem F_is_within (T : Tx K mg w ea) : Fn P w K mg base ea "is_within" (mG K) 1 ["thing", "low", "high"] p_is_within :=
  DefK.fn T.d_is_within ["thing", "low", "high"] 0 (goodG K) (fun nd f cdv A outer s H E hr tk po =>
    (ess_one (es_ret (eg_and (EF.toB (b_isi .int T.m_isinstance T.m_int (EG.toB (v_eg 0)))) (eg_and (EF.toB (ef_not (EF.toB (b_isi .bool T.m_isinstance T.m_bool (EG.toB (v_eg 0)))))) (eg_one (EF.toG (ef_chain opd_le opd_le (EG.toB (v_eg 1)) (EG.toB (v_eg 0)) (EG.toB (v_eg 2))))))))))

theorem F_is_row (T : Tx K mg w ea) : Fn P w K mg base ea "is_row" (mG K) 2 ["many", "thing"] p_is_row :=
  DefK.fn T.d_is_row ["many", "thing", "one", "other"] 1 (goodG K) (fun nd f cdv A outer s H E hr tk po =>
    (ess_cons (es_if (EW.et (ew_or (et_not (et_tst (EF.toB (b_isi .tuple T.m_isinstance T.m_tuple (EG.toB (v_eg 1)))))) (ew_or1 (et_tst (EF.toB (e_comp [("one", 2)] [2] rfl nd (si_any (v_eg 1)) (fun _ _ _ _ _ => (g_name nd 2)) (fun _ _ _ _ _ => (ets_one (et_not (et_tst (EG.toB (g_call (F_is_within T) (by decide) hr takes_none5 (ea_cons (v_eg 2) (ea_cons (EF.toG ef_int) (ea_cons (EF.toG (ef_bin opd_sub (EG.toB (v_eg 0)) (EF.toB ef_int))) ea_nil))) (al_cons (al_cons (al_cons al_nil))))))))) (fun _ _ _ _ _ => (v_eg 2))))))))
  (ess_one (es_ret (EF.toG ef_bl)))
  ess_nil)
  (ess_one (es_ret (EF.toG (ef_not (EF.toB (e_comp [("one", 2), ("other", 3)] [2, 3] rfl nd (i_zip T.m_zip (v_eg 1) (EF.toG (ef_cut (EG.toB (v_eg 1)) (eo_some (EF.toB ef_int)) eo_none))) (fun _ _ _ _ _ => (g_tup2 rfl nd 2 3)) (fun _ _ _ _ _ => (ets_one (et_cmp opd_ge (EG.toB (v_eg 2)) (EG.toB (v_eg 3))))) (fun _ _ _ _ _ => (EF.toG ef_int))))))))))

theorem F_is_saying (T : Tx K mg w ea) : ∀ n : Nat, Fn P w K mg base ea "is_saying" (mG K) (3 + n) ["many", "thing", "deep"] (p_is_saying n)
  | 0 => DefK.bad T.d_is_saying ["many", "thing", "deep", "part"] 2
  | n + 1 => by
    have ih := F_is_saying T n
    refine DefK.fn T.d_is_saying ["many", "thing", "deep", "part"] (3 + n) (b := (sSeq (sIf (orT (tstB (bin dEq (var 2) (con (.int 0)))) (orT (notT (tst (un (dIsi .tuple) (var 1)))) (orT (notT (tst (var 1))) (notT (tst (un (dIsi .str) (bin dIx (var 1) (con (.int 0)))))))))
  (sRet (con (.bl false)))
  sNx)
  (sSeq (sIf (tstB (bin dNe (un dLen (var 1)) (bin (dKGet t_SIZES) (bin dIx (var 1) (con (.int 0))) (con (.int 0)))))
  (sRet (con (.bl false)))
  sNx)
  (sSeq (sIf (tstB (bin dEq (bin dIx (var 1) (con (.int 0))) (con (.str [115, 97, 121, 115]))))
  (sRet (callE p_is_within (acons (bin dIx (var 1) (con (.int 1))) (acons (con (.int 0)) (acons (bin dSub (var 0) (con (.int 1))) anil)))))
  sNx)
  (sSeq (sIf (tstB (bin dEq (bin dIx (var 1) (con (.int 0))) (con (.str [109, 97, 110, 121]))))
  (sRet (andE (callE p_is_within (acons (bin dIx (var 1) (con (.int 1))) (acons (con (.int 0)) (acons (var 0) anil)))) (andE (callE p_is_within (acons (bin dIx (var 1) (con (.int 2))) (acons (bin dIx (var 1) (con (.int 1))) (acons (var 0) anil)))) (callE p_is_row (acons (var 0) (acons (bin dIx (var 1) (con (.int 3))) anil))))))
  sNx)
  (sRet (notE (tst (comp (src (cutE (var 1) (some (con (.int 1))) none)) [3] (gSet 3) (notT (tst (callE (p_is_saying n) (acons (var 0) (acons (var 3) (acons (bin dSub (var 2) (con (.int 1))) anil)))))) (var 3)))))))))) (goodG K) (fun nd f cdv A outer s H E hr tk po => ?_)
    exact (ess_cons (es_if (EW.et (ew_or (et_cmp (opd_eq hr.units) (EG.toB (v_eg 2)) (EF.toB ef_int)) (ew_or (et_not (et_tst (EF.toB (b_isi .tuple T.m_isinstance T.m_tuple (EG.toB (v_eg 1)))))) (ew_or (et_not (et_tst (EG.toB (v_eg 1)))) (ew_or1 (et_not (et_tst (EF.toB (b_isi .str T.m_isinstance T.m_str (EG.toB (eg_ix hr.u1 (EG.toB (v_eg 1)) (EF.toB ef_int))))))))))))
  (ess_one (es_ret (EF.toG ef_bl)))
  ess_nil)
  (ess_cons (es_if (et_cmp (opd_ne hr.units) (EF.toB (b_len T.m_len (EG.toB (v_eg 1)))) (EF.toB (k_get2 T.k_SIZES (by decide) (EG.toB (eg_ix hr.u1 (EG.toB (v_eg 1)) (EF.toB ef_int))) (EF.toB ef_int) (fun _ _ h => by cases h; rfl))))
  (ess_one (es_ret (EF.toG ef_bl)))
  ess_nil)
  (ess_cons (es_if (et_cmp (opd_eq hr.units) (EG.toB (eg_ix hr.u1 (EG.toB (v_eg 1)) (EF.toB ef_int))) (EF.toB (c_str (y := [115, 97, 121, 115]))))
  (ess_one (es_ret (g_call (F_is_within T) (by omega) hr tk (ea_cons (eg_ix hr.u1 (EG.toB (v_eg 1)) (EF.toB ef_int)) (ea_cons (EF.toG ef_int) (ea_cons (EF.toG (ef_bin opd_sub (EG.toB (v_eg 0)) (EF.toB ef_int))) ea_nil))) (al_cons (al_cons (al_cons al_nil))))))
  ess_nil)
  (ess_cons (es_if (et_cmp (opd_eq hr.units) (EG.toB (eg_ix hr.u1 (EG.toB (v_eg 1)) (EF.toB ef_int))) (EF.toB (c_str (y := [109, 97, 110, 121]))))
  (ess_one (es_ret (eg_and (EG.toB (g_call (F_is_within T) (by omega) hr tk (ea_cons (eg_ix hr.u1 (EG.toB (v_eg 1)) (EF.toB ef_int)) (ea_cons (EF.toG ef_int) (ea_cons (v_eg 0) ea_nil))) (al_cons (al_cons (al_cons al_nil))))) (eg_and (EG.toB (g_call (F_is_within T) (by omega) hr tk (ea_cons (eg_ix hr.u1 (EG.toB (v_eg 1)) (EF.toB ef_int)) (ea_cons (eg_ix hr.u1 (EG.toB (v_eg 1)) (EF.toB ef_int)) (ea_cons (v_eg 0) ea_nil))) (al_cons (al_cons (al_cons al_nil))))) (eg_one (g_call (F_is_row T) (by omega) hr tk (ea_cons (v_eg 0) (ea_cons (eg_ix hr.u1 (EG.toB (v_eg 1)) (EF.toB ef_int)) ea_nil)) (al_cons (al_cons al_nil))))))))
  ess_nil)
  (ess_one (es_ret (EF.toG (ef_not (EF.toB (e_comp [("part", 3)] [3] rfl nd (si_any (EF.toG (ef_cut (EG.toB (v_eg 1)) (eo_some (EF.toB ef_int)) eo_none))) (fun _ _ _ _ _ => (g_name nd 3)) (fun _ _ _ _ _ => (ets_one (et_not (et_tst (EG.toB (g_call ih (by omega) hr takes_none5 (ea_cons (v_eg 0) (ea_cons (v_eg 3) (ea_cons (EF.toG (ef_bin opd_sub (EG.toB (v_eg 2)) (EF.toB ef_int))) ea_nil))) (al_cons (al_cons (al_cons al_nil))))))))) (fun _ _ _ _ _ => (v_eg 3))))))))))))

theorem F_is_book (T : Tx K mg w ea) : Fn P w K mg base ea "is_book" (mG K) 10 ["thing"] p_is_book :=
  DefK.fn T.d_is_book ["thing", "one"] 9 (goodG K) (fun nd f cdv A outer s H E hr tk po =>
    (ess_cons (es_if (EW.et (ew_or (et_not (et_tst (EF.toB (b_isi .tuple T.m_isinstance T.m_tuple (EG.toB (v_eg 0)))))) (ew_or1 (et_not (et_chain opd_le opd_le (EF.toB ef_int) (EF.toB (b_len T.m_len (EG.toB (v_eg 0)))) (EF.toB (c_gint T.g_MOST_SAYINGS)))))))
  (ess_one (es_ret (EF.toG ef_bl)))
  ess_nil)
  (ess_one (es_ret (EF.toG (ef_not (EF.toB (e_comp [("one", 1)] [1] rfl nd (si_any (v_eg 0)) (fun _ _ _ _ _ => (g_name nd 1)) (fun _ _ _ _ _ => (ets_one (et_not (et_tst (EG.toB (g_call (F_is_saying T 6) (by decide) hr takes_none5 (ea_cons (EF.toG (b_len T.m_len (EG.toB (v_eg 0)))) (ea_cons (v_eg 1) (ea_cons (EF.toG (c_gint T.g_MOST_DEEP)) ea_nil))) (al_cons (al_cons (al_cons al_nil))))))))) (fun _ _ _ _ _ => (v_eg 1))))))))))

theorem F_look (T : Tx K mg w ea) : Fn P w K mg base ea "look" (mG K) 11 ["thing"] p_look :=
  DefK.fn T.d_look ["thing"] 10 (goodG K) (fun nd f cdv A outer s H E hr tk po =>
    (ess_one (es_if (et_not (et_tst (EG.toB (g_call (F_is_book T) (by decide) hr tk (ea_cons (v_eg 0) ea_nil) (al_cons al_nil)))))
  (ess_one (s_raise rfl tk T.e_BadBook))
  ess_nil)))

theorem F_is_telling (T : Tx K mg w ea) : Fn P w K mg base ea "is_telling" (mG K) 1 ["book", "thing"] p_is_telling :=
  DefK.fn T.d_is_telling ["book", "thing", "sign"] 0 (goodG K) (fun nd f cdv A outer s H E hr tk po =>
    (ess_cons (es_if (EW.et (ew_or (et_not (et_tst (EF.toB (b_isi .str T.m_isinstance T.m_str (EG.toB (v_eg 1)))))) (ew_or1 (et_cmp (opd_ne hr.units) (EF.toB (b_len T.m_len (EG.toB (v_eg 1)))) (EF.toB (b_len T.m_len (EG.toB (v_eg 0))))))))
  (ess_one (es_ret (EF.toG ef_bl)))
  ess_nil)
  (ess_one (es_ret (EF.toG (ef_not (EF.toB (e_comp [("sign", 2)] [2] rfl nd (si_any (v_eg 1)) (fun _ _ _ _ _ => (g_name nd 2)) (fun _ _ _ _ _ => (ets_one (et_cmp (opd_notIn hr.u65) (EG.toB (v_eg 2)) (EF.toB (c_gstr T.g_WORTHS))))) (fun _ _ _ _ _ => (v_eg 2))))))))))

theorem F_look_telling (T : Tx K mg w ea) : Fn P w K mg base ea "look_telling" (mG K) 2 ["book", "thing"] p_look_telling :=
  DefK.fn T.d_look_telling ["book", "thing"] 1 (goodG K) (fun nd f cdv A outer s H E hr tk po =>
    (ess_one (es_if (et_not (et_tst (EG.toB (g_call (F_is_telling T) (by decide) hr tk (ea_cons (v_eg 0) (ea_cons (v_eg 1) ea_nil)) (al_cons (al_cons al_nil))))))
  (ess_one (s_raise rfl tk T.e_BadTelling))
  ess_nil)))

theorem F_look_number (T : Tx K mg w ea) : Fn P w K mg base ea "look_number" (mG K) 2 ["book", "thing"] p_look_number :=
  DefK.fn T.d_look_number ["book", "thing"] 1 (goodG K) (fun nd f cdv A outer s H E hr tk po =>
    (ess_one (es_if (et_not (et_tst (EG.toB (g_call (F_is_within T) (by decide) hr tk (ea_cons (v_eg 1) (ea_cons (EF.toG ef_int) (ea_cons (EF.toG (ef_bin opd_sub (EF.toB (b_len T.m_len (EG.toB (v_eg 0)))) (EF.toB ef_int))) ea_nil))) (al_cons (al_cons (al_cons al_nil)))))))
  (ess_one (s_raise rfl tk T.e_BadSaying))
  ess_nil)))

theorem F_turned (T : Tx K mg w ea) : Fn P w K mg base ea "turned" (mG K) 1 ["worth"] p_turned :=
  DefK.fn T.d_turned ["worth"] 0 (goodG K) (fun nd f cdv A outer s H E hr tk po =>
    (ess_one (es_ret (eg_ix hr.u1 (EF.toB (ef_dct (eps_cons (EF.toG (c_str (y := [116]))) (EF.toG (c_str (y := [102]))) (eps_cons (EF.toG (c_str (y := [102]))) (EF.toG (c_str (y := [116]))) (eps_cons (EF.toG (c_str (y := [110]))) (EF.toG (c_str (y := [110]))) eps_nil))))) (EG.toB (v_eg 0))))))

theorem F_of_many (T : Tx K mg w ea) : Fn P w K mg base ea "of_many" (mG K) 1 ["low", "high", "worths"] p_of_many :=
  DefK.fn T.d_of_many ["low", "high", "worths", "least", "most"] 0 (goodG K) (fun nd f cdv A outer s H E hr tk po =>
    (ess_cons (s_set nd 3 (EF.toG (m_count (EG.toB (v_eg 2)) (EF.toB (c_str (y := [116]))))))
  (ess_cons (s_set nd 4 (EF.toG (ef_bin opd_add (EG.toB (v_eg 3)) (EF.toB (m_count (EG.toB (v_eg 2)) (EF.toB (c_str (y := [110]))))))))
  (ess_cons (es_if (EW.et (ew_and (et_cmp opd_le (EG.toB (v_eg 0)) (EG.toB (v_eg 3))) (ew_and1 (et_cmp opd_le (EG.toB (v_eg 4)) (EG.toB (v_eg 1))))))
  (ess_one (es_ret (EF.toG (c_str (y := [116])))))
  ess_nil)
  (ess_cons (es_if (EW.et (ew_or (et_cmp opd_lt (EG.toB (v_eg 4)) (EG.toB (v_eg 0))) (ew_or1 (et_cmp opd_gt (EG.toB (v_eg 3)) (EG.toB (v_eg 1))))))
  (ess_one (es_ret (EF.toG (c_str (y := [102])))))
  ess_nil)
  (ess_one (es_ret (EF.toG (c_str (y := [110]))))))))))

theorem F_worth_of (T : Tx K mg w ea) : ∀ n : Nat, Fn P w K mg base ea "worth_of" (mG K) (2 + n) ["telling", "saying"] (p_worth_of n)
  | 0 => DefK.bad T.d_worth_of ["telling", "saying", "word", "pair", "one"] 1
  | n + 1 => by
    have ih := F_worth_of T n
    refine DefK.fn T.d_worth_of ["telling", "saying", "word", "pair", "one"] (2 + n) (b := (sSeq (sSet 2 (bin dIx (var 1) (con (.int 0))))
  (sSeq (sIf (tstB (bin dEq (var 2) (con (.str [121, 101, 115]))))
  (sRet (con (.str [116])))
  sNx)
  (sSeq (sIf (tstB (bin dEq (var 2) (con (.str [110, 111]))))
  (sRet (con (.str [102])))
  sNx)
  (sSeq (sIf (tstB (bin dEq (var 2) (con (.str [115, 97, 121, 115]))))
  (sRet (bin dIx (var 0) (bin dIx (var 1) (con (.int 1)))))
  sNx)
  (sSeq (sIf (tstB (bin dEq (var 2) (con (.str [110, 111, 116]))))
  (sRet (callE p_turned (acons (callE (p_worth_of n) (acons (var 0) (acons (bin dIx (var 1) (con (.int 1))) anil))) anil)))
  sNx)
  (sSeq (sIf (tstB (bin dEq (var 2) (con (.str [109, 97, 110, 121]))))
  (sRet (callE p_of_many (acons (bin dIx (var 1) (con (.int 1))) (acons (bin dIx (var 1) (con (.int 2))) (acons (comp (src (bin dIx (var 1) (con (.int 3)))) [4] (gSet 4) yes (bin dIx (var 0) (var 4))) anil)))))
  sNx)
  (sSeq (sSet 3 (lstE (acons (callE (p_worth_of n) (acons (var 0) (acons (bin dIx (var 1) (con (.int 1))) anil))) (acons (callE (p_worth_of n) (acons (var 0) (acons (bin dIx (var 1) (con (.int 2))) anil))) anil))))
  (sSeq (sIf (tstB (bin dEq (var 2) (con (.str [97, 110, 100]))))
  (sRet (callE p_of_many (acons (con (.int 2)) (acons (con (.int 2)) (acons (var 3) anil)))))
  sNx)
  (sRet (callE p_of_many (acons (con (.int 1)) (acons (con (.int 2)) (acons (var 3) anil)))))))))))))) (goodG K) (fun nd f cdv A outer s H E hr tk po => ?_)
    exact (ess_cons (s_set nd 2 (eg_ix hr.u1 (EG.toB (v_eg 1)) (EF.toB ef_int)))
  (ess_cons (es_if (et_cmp (opd_eq hr.units) (EG.toB (v_eg 2)) (EF.toB (c_str (y := [121, 101, 115]))))
  (ess_one (es_ret (EF.toG (c_str (y := [116])))))
  ess_nil)
  (ess_cons (es_if (et_cmp (opd_eq hr.units) (EG.toB (v_eg 2)) (EF.toB (c_str (y := [110, 111]))))
  (ess_one (es_ret (EF.toG (c_str (y := [102])))))
  ess_nil)
  (ess_cons (es_if (et_cmp (opd_eq hr.units) (EG.toB (v_eg 2)) (EF.toB (c_str (y := [115, 97, 121, 115]))))
  (ess_one (es_ret (eg_ix hr.u1 (EG.toB (v_eg 0)) (EG.toB (eg_ix hr.u1 (EG.toB (v_eg 1)) (EF.toB ef_int))))))
  ess_nil)
  (ess_cons (es_if (et_cmp (opd_eq hr.units) (EG.toB (v_eg 2)) (EF.toB (c_str (y := [110, 111, 116]))))
  (ess_one (es_ret (g_call (F_turned T) (by omega) hr tk (ea_cons (g_call ih (by omega) hr tk (ea_cons (v_eg 0) (ea_cons (eg_ix hr.u1 (EG.toB (v_eg 1)) (EF.toB ef_int)) ea_nil)) (al_cons (al_cons al_nil))) ea_nil) (al_cons al_nil))))
  ess_nil)
  (ess_cons (es_if (et_cmp (opd_eq hr.units) (EG.toB (v_eg 2)) (EF.toB (c_str (y := [109, 97, 110, 121]))))
  (ess_one (es_ret (g_call (F_of_many T) (by omega) hr tk (ea_cons (eg_ix hr.u1 (EG.toB (v_eg 1)) (EF.toB ef_int)) (ea_cons (eg_ix hr.u1 (EG.toB (v_eg 1)) (EF.toB ef_int)) (ea_cons (EF.toG (e_comp [("one", 4)] [4] rfl nd (si_any (eg_ix hr.u1 (EG.toB (v_eg 1)) (EF.toB ef_int))) (fun _ _ _ _ _ => (g_name nd 4)) (fun _ _ _ _ _ => ets_nil) (fun _ _ _ _ _ => (eg_ix hr.u1 (EG.toB (v_eg 0)) (EG.toB (v_eg 4)))))) ea_nil))) (al_cons (al_cons (al_cons al_nil))))))
  ess_nil)
  (ess_cons (s_set nd 3 (EF.toG (ef_lst (ea_cons (g_call ih (by omega) hr tk (ea_cons (v_eg 0) (ea_cons (eg_ix hr.u1 (EG.toB (v_eg 1)) (EF.toB ef_int)) ea_nil)) (al_cons (al_cons al_nil))) (ea_cons (g_call ih (by omega) hr tk (ea_cons (v_eg 0) (ea_cons (eg_ix hr.u1 (EG.toB (v_eg 1)) (EF.toB ef_int)) ea_nil)) (al_cons (al_cons al_nil))) ea_nil)))))
  (ess_cons (es_if (et_cmp (opd_eq hr.units) (EG.toB (v_eg 2)) (EF.toB (c_str (y := [97, 110, 100]))))
  (ess_one (es_ret (g_call (F_of_many T) (by omega) hr tk (ea_cons (EF.toG ef_int) (ea_cons (EF.toG ef_int) (ea_cons (v_eg 3) ea_nil))) (al_cons (al_cons (al_cons al_nil))))))
  ess_nil)
  (ess_one (es_ret (g_call (F_of_many T) (by omega) hr tk (ea_cons (EF.toG ef_int) (ea_cons (EF.toG ef_int) (ea_cons (v_eg 3) ea_nil))) (al_cons (al_cons (al_cons al_nil))))))))))))))

theorem F_next_of (T : Tx K mg w ea) : Fn P w K mg base ea "next_of" (mG K) 9 ["book", "telling"] p_next_of :=
  DefK.fn T.d_next_of ["book", "telling", "saying"] 8 (goodG K) (fun nd f cdv A outer s H E hr tk po =>
    (ess_one (es_ret (EF.toG (m_join (EF.toB (c_str (y := []))) (EF.toB (e_comp [("saying", 2)] [2] rfl nd (si_any (v_eg 0)) (fun _ _ _ _ _ => (g_name nd 2)) (fun _ _ _ _ _ => ets_nil) (fun _ _ _ _ _ => (g_call (F_worth_of T 6) (by decide) hr takes_none5 (ea_cons (v_eg 1) (ea_cons (v_eg 2) ea_nil)) (al_cons (al_cons al_nil)))))))))))

theorem F_rounds_from (T : Tx K mg w ea) : Fn P w K mg base ea "rounds_from" (mG K) 10 ["book", "telling"] p_rounds_from :=
  DefK.fn T.d_rounds_from ["book", "telling", "found"] 9 (goodG K) (fun nd f cdv A outer s H E hr tk po =>
    (ess_cons (s_own nd 2 (ef_lst (ea_cons (v_eg 1) ea_nil)))
  (ess_cons (es_while po (et_cmp (opd_ne hr.units) (EG.toB (g_call (F_next_of T) (by decide) hr tk (ea_cons (v_eg 0) (ea_cons (eg_ix hr.u1 (v_eb 2) (EF.toB (ef_neg (EF.toB ef_int)))) ea_nil)) (al_cons (al_cons al_nil)))) (EG.toB (eg_ix hr.u1 (v_eb 2) (EF.toB (ef_neg (EF.toB ef_int))))))
  (ess_one (s_app 2 (g_call (F_next_of T) (by decide) hr tk (ea_cons (v_eg 0) (ea_cons (eg_ix hr.u1 (v_eb 2) (EF.toB (ef_neg (EF.toB ef_int)))) ea_nil)) (al_cons (al_cons al_nil))))))
  (ess_one (s_retV 2)))))

theorem F_could_be (T : Tx K mg w ea) : Fn P w K mg base ea "could_be" (mG K) 9 ["book", "known", "at"] p_could_be :=
  DefK.fn T.d_could_be ["book", "known", "at", "first", "lowest", "one"] 8 (goodG K) (fun nd f cdv A outer s H E hr tk po =>
    (ess_cons (s_set nd 3 (EF.toG (m_join (EF.toB (c_str (y := []))) (EF.toB (e_comp [("one", 5)] [5] rfl nd (i_range1 T.m_range (EF.toB (b_len T.m_len (EG.toB (v_eg 0))))) (fun _ _ _ _ _ => (g_name nd 5)) (fun _ _ _ _ _ => ets_nil) (fun _ _ _ _ _ => (m_get2 hr.u1 (EG.toB (v_eg 1)) (EG.toB (v_eg 5)) (EF.toG (c_str (y := [110]))))))))))
  (ess_cons (s_set nd 4 (g_call (F_worth_of T 6) (by decide) hr tk (ea_cons (v_eg 3) (ea_cons (eg_ix hr.u1 (EG.toB (v_eg 0)) (EG.toB (v_eg 2))) ea_nil)) (al_cons (al_cons al_nil))))
  (ess_one (es_ret (eg_and (EF.toB (ef_cmp (opd_in hr.u65) (EG.toB (v_eg 4)) (EF.toB (ef_tup (ea_cons (EF.toG (c_str (y := [110]))) (ea_cons (eg_ix hr.u1 (EG.toB (v_eg 1)) (EG.toB (v_eg 2))) ea_nil)))))) (eg_one (eg_or (EF.toB (ef_cmp (opd_ne hr.units) (EG.toB (eg_ix hr.u1 (EG.toB (v_eg 1)) (EG.toB (v_eg 2)))) (EF.toB (c_str (y := [110]))))) (eg_one (EF.toG (ef_cmp (opd_eq hr.units) (EG.toB (v_eg 4)) (EF.toB (c_str (y := [110]))))))))))))))

theorem F_all_of (T : Tx K mg w ea) : Fn P w K mg base ea "all_of" (mG K) 10 ["book"] p_all_of :=
  DefK.fn T.d_all_of ["book", "rows", "at", "longer", "row", "sign", "new", "known", "one"] 9 (goodG K) (fun nd f cdv A outer s H E hr tk po =>
    (ess_cons (s_set nd 1 (EF.toG (ef_lst (ea_cons (EF.toG (c_str (y := []))) ea_nil))))
  (ess_cons (es_for po rfl (i_range1 T.m_range (EF.toB (b_len T.m_len (EG.toB (v_eg 0))))) (g_name nd 2) gSet_norm
  (ess_cons (s_own nd 3 (ef_lst ea_nil))
  (ess_cons (es_for po rfl (si_any (v_eg 1)) (g_name nd 4) gSet_norm
  (ess_one (es_for po rfl (si_any (EF.toG (c_str (y := [102, 110, 116])))) (g_name nd 5) gSet_norm
  (ess_cons (s_set nd 6 (EF.toG (ef_bin opd_add (EG.toB (v_eg 4)) (EG.toB (v_eg 5)))))
  (ess_cons (s_set nd 7 (EF.toG (b_denum rfl T.m_dict T.m_enumerate (EG.toB (v_eg 6)))))
  (ess_one (es_if (et_not (et_tst (EF.toB (e_comp [("one", 8)] [8] rfl nd (si_any (v_eg 7)) (fun _ _ _ _ _ => (g_name nd 8)) (fun _ _ _ _ _ => (ets_one (et_not (et_tst (EG.toB (g_call (F_could_be T) (by decide) hr takes_none5 (ea_cons (v_eg 0) (ea_cons (v_eg 7) (ea_cons (v_eg 8) ea_nil))) (al_cons (al_cons (al_cons al_nil))))))))) (fun _ _ _ _ _ => (v_eg 8))))))
  (ess_one (s_app 3 (v_eg 6)))
  ess_nil)))))))
  (ess_one (s_mv nd 1 3)))))
  (ess_one (es_ret (EF.toG (e_comp [("row", 4)] [4] rfl nd (si_any (v_eg 1)) (fun _ _ _ _ _ => (g_name nd 4)) (fun _ _ _ _ _ => (ets_one (et_cmp (opd_eq hr.units) (EG.toB (g_call (F_next_of T) (by decide) hr takes_none5 (ea_cons (v_eg 0) (ea_cons (v_eg 4) ea_nil)) (al_cons (al_cons al_nil)))) (EG.toB (v_eg 4))))) (fun _ _ _ _ _ => (v_eg 4)))))))))

theorem F_look_known (T : Tx K mg w ea) : Fn P w K mg base ea "look_known" (mG K) 2 ["book", "known"] p_look_known :=
  DefK.fn T.d_look_known ["book", "known", "last", "one"] 1 (goodG K) (fun nd f cdv A outer s H E hr tk po =>
    (ess_cons (es_if (et_not (et_tst (EF.toB (b_isi .tuple T.m_isinstance T.m_tuple (EG.toB (v_eg 1))))))
  (ess_one (s_raise rfl tk T.e_BadOrder))
  ess_nil)
  (ess_cons (s_set nd 2 (EF.toG (ef_neg (EF.toB ef_int))))
  (ess_one (es_for po rfl (si_any (v_eg 1)) (g_name nd 3) gSet_norm
  (ess_cons (es_if (EW.et (ew_or (et_not (et_tst (EF.toB (b_isi .tuple T.m_isinstance T.m_tuple (EG.toB (v_eg 3)))))) (ew_or (et_cmp (opd_ne hr.units) (EF.toB (b_len T.m_len (EG.toB (v_eg 3)))) (EF.toB ef_int)) (ew_or1 (et_not (et_tst (EG.toB (g_call (F_is_within T) (by decide) hr tk (ea_cons (eg_ix hr.u1 (EG.toB (v_eg 3)) (EF.toB ef_int)) (ea_cons (EF.toG (ef_bin opd_add (EG.toB (v_eg 2)) (EF.toB ef_int))) (ea_cons (EF.toG (ef_bin opd_sub (EF.toB (b_len T.m_len (EG.toB (v_eg 0)))) (EF.toB ef_int))) ea_nil))) (al_cons (al_cons (al_cons al_nil)))))))))))
  (ess_one (s_raise rfl tk T.e_BadOrder))
  ess_nil)
  (ess_cons (es_if (EW.et (ew_or (et_not (et_tst (EF.toB (b_isi .str T.m_isinstance T.m_str (EG.toB (eg_ix hr.u1 (EG.toB (v_eg 3)) (EF.toB ef_int))))))) (ew_or1 (kt_notIn T.k_SAYINGS (EG.toB (eg_ix hr.u1 (EG.toB (v_eg 3)) (EF.toB ef_int)))))))
  (ess_one (s_raise rfl tk T.e_BadOrder))
  ess_nil)
  (ess_one (s_set nd 2 (eg_ix hr.u1 (EG.toB (v_eg 3)) (EF.toB ef_int)))))))))))

theorem F_with_known (T : Tx K mg w ea) : Fn P w K mg base ea "with_known" (mG K) 1 ["book", "known"] p_with_known :=
  DefK.fn T.d_with_known ["book", "known", "number", "worth"] 0 (goodG K) (fun nd f cdv A outer s H E hr tk po =>
    (ess_cons (s_own nd 0 (b_list rfl T.m_list (v_eb 0)))
  (ess_cons (es_for po rfl (si_any (v_eg 1)) (g_tup2 rfl nd 2 3) gTup_norm
  (ess_one (s_put hr.u1 0 (EG.toB (v_eg 2)) (k_ix T.k_SAYINGS (EG.toB (v_eg 3))))))
  (ess_one (es_ret (EF.toG (b_tuple T.m_tuple (v_eb 0))))))))

theorem F_grounded_of (T : Tx K mg w ea) : Fn P w K mg base ea "grounded_of" (mG K) 11 ["book", "known"] p_grounded_of :=
  DefK.fn T.d_grounded_of ["book", "known", "here"] 10 (goodG K) (fun nd f cdv A outer s H E hr tk po =>
    (ess_cons (s_set nd 2 (g_call (F_with_known T) (by decide) hr tk (ea_cons (v_eg 0) (ea_cons (v_eg 1) ea_nil)) (al_cons (al_cons al_nil))))
  (ess_one (es_ret (eg_ix hr.u1 (EG.toB (g_call (F_rounds_from T) (by decide) hr tk (ea_cons (v_eg 2) (ea_cons (EF.toG (ef_bin opd_mul (EF.toB (c_str (y := [110]))) (EF.toB (b_len T.m_len (EG.toB (v_eg 2)))))) ea_nil)) (al_cons (al_cons al_nil)))) (EF.toB (ef_neg (EF.toB ef_int))))))))

theorem F_grounded_by (T : Tx K mg w ea) : Fn P w K mg base ea "grounded_by" (mG K) 12 ["book", "known"] p_grounded_by :=
  DefK.fn T.d_grounded_by ["book", "known"] 11 (goodG K) (fun nd f cdv A outer s H E hr tk po =>
    (ess_cons (es_exp (g_call (F_look T) (by decide) hr tk (ea_cons (v_eg 0) ea_nil) (al_cons al_nil)))
  (ess_cons (es_exp (g_call (F_look_known T) (by decide) hr tk (ea_cons (v_eg 0) (ea_cons (v_eg 1) ea_nil)) (al_cons (al_cons al_nil))))
  (ess_one (es_ret (g_call (F_grounded_of T) (by decide) hr tk (ea_cons (v_eg 0) (ea_cons (v_eg 1) ea_nil)) (al_cons (al_cons al_nil))))))))

theorem F_all_known (T : Tx K mg w ea) : Fn P w K mg base ea "all_known" (mG K) 1 ["many"] p_all_known :=
  DefK.fn T.d_all_known ["many", "found", "at", "false_ones", "row"] 0 (goodG K) (fun nd f cdv A outer s H E hr tk po =>
    (ess_cons (s_set nd 1 (EF.toG (ef_lst (ea_cons (EF.toG (ef_tup ea_nil)) ea_nil))))
  (ess_cons (es_for po rfl (i_range1 T.m_range (EG.toB (v_eg 0))) (g_name nd 2) gSet_norm
  (ess_cons (s_setLc 3 [("row", 4)] [4] rfl nd (si_any (v_eg 1)) (fun _ _ _ _ _ => (g_name nd 4)) (fun _ _ _ _ _ => ets_nil) (fun _ _ _ _ _ => (EF.toG (ef_bin opd_add (EG.toB (v_eg 4)) (EF.toB (ef_tup (ea_cons (EF.toG (ef_tup (ea_cons (v_eg 2) (ea_cons (EF.toG (c_str (y := [102]))) ea_nil)))) ea_nil)))))))
  (ess_one (s_set nd 1 (EF.toG (ef_bin opd_add (EF.toB (ef_bin opd_add (EG.toB (v_eg 1)) (EG.toB (v_eg 3)))) (EF.toB (e_comp [("row", 4)] [4] rfl nd (si_any (v_eg 1)) (fun _ _ _ _ _ => (g_name nd 4)) (fun _ _ _ _ _ => ets_nil) (fun _ _ _ _ _ => (EF.toG (ef_bin opd_add (EG.toB (v_eg 4)) (EF.toB (ef_tup (ea_cons (EF.toG (ef_tup (ea_cons (v_eg 2) (ea_cons (EF.toG (c_str (y := [116]))) ea_nil)))) ea_nil))))))))))))))
  (ess_one (es_ret (v_eg 1))))))

theorem F_fewest_known (T : Tx K mg w ea) : Fn P w K mg base ea "fewest_known" (mG K) 12 ["book"] p_fewest_known :=
  DefK.fn T.d_fewest_known ["book", "good", "known"] 11 (goodG K) (fun nd f cdv A outer s H E hr tk po =>
    (ess_cons (es_exp (g_call (F_look T) (by decide) hr tk (ea_cons (v_eg 0) ea_nil) (al_cons al_nil)))
  (ess_cons (s_own nd 1 (ef_lst ea_nil))
  (ess_cons (es_for po rfl (si_any (g_call (F_all_known T) (by decide) hr tk (ea_cons (EF.toG (b_len T.m_len (EG.toB (v_eg 0)))) ea_nil) (al_cons al_nil))) (g_name nd 2) gSet_norm
  (ess_one (es_if (et_cmp (opd_notIn hr.u65) (EF.toB (c_str (y := [110]))) (EG.toB (g_call (F_grounded_of T) (by decide) hr tk (ea_cons (v_eg 0) (ea_cons (v_eg 2) ea_nil)) (al_cons (al_cons al_nil)))))
  (ess_one (s_app 1 (EF.toG (ef_tup (ea_cons (EF.toG (b_len T.m_len (EG.toB (v_eg 2)))) (ea_cons (v_eg 2) ea_nil))))))
  ess_nil)))
  (ess_one (es_ret (eg_ix hr.u1 (EG.toB (g_minL rfl hr.units T.m_min (v_eb 1))) (EF.toB ef_int))))))))

theorem F_always_alike (T : Tx K mg w ea) : Fn P w K mg base ea "always_alike" (mG K) 12 ["book"] p_always_alike :=
  DefK.fn T.d_always_alike ["book", "some", "found", "at", "key", "row"] 11 (goodG K) (fun nd f cdv A outer s H E hr tk po =>
    (ess_cons (es_exp (g_call (F_look T) (by decide) hr tk (ea_cons (v_eg 0) ea_nil) (al_cons al_nil)))
  (ess_cons (s_set nd 1 (g_call (F_all_of T) (by decide) hr tk (ea_cons (v_eg 0) ea_nil) (al_cons al_nil)))
  (ess_cons (s_own nd 2 ef_dnew)
  (ess_cons (es_for po rfl (i_range1 T.m_range (EF.toB (b_len T.m_len (EG.toB (v_eg 0))))) (g_name nd 3) gSet_norm
  (ess_cons (s_set nd 4 (EF.toG (m_join (EF.toB (c_str (y := []))) (EF.toB (e_comp [("row", 5)] [5] rfl nd (si_any (v_eg 1)) (fun _ _ _ _ _ => (g_name nd 5)) (fun _ _ _ _ _ => ets_nil) (fun _ _ _ _ _ => (eg_ix hr.u1 (EG.toB (v_eg 5)) (EG.toB (v_eg 3)))))))))
  (ess_one (s_put hr.u1 2 (EG.toB (v_eg 4)) (EF.toG (ef_bin opd_add (EG.toB (m_get2 hr.u1 (v_eb 2) (EG.toB (v_eg 4)) (EF.toG (ef_tup ea_nil)))) (EF.toB (ef_tup (ea_cons (v_eg 3) ea_nil)))))))))
  (ess_one (es_ret (EF.toG (b_sortVals 2 rfl hr.units T.m_sorted)))))))))

theorem F_always_against (T : Tx K mg w ea) : Fn P w K mg base ea "always_against" (mG K) 12 ["book"] p_always_against :=
  DefK.fn T.d_always_against ["book", "some", "found", "other", "one", "row"] 11 (goodG K) (fun nd f cdv A outer s H E hr tk po =>
    (ess_cons (es_exp (g_call (F_look T) (by decide) hr tk (ea_cons (v_eg 0) ea_nil) (al_cons al_nil)))
  (ess_cons (s_set nd 1 (g_call (F_all_of T) (by decide) hr tk (ea_cons (v_eg 0) ea_nil) (al_cons al_nil)))
  (ess_cons (s_own nd 2 (ef_lst ea_nil))
  (ess_cons (es_for po rfl (i_range1 T.m_range (EF.toB (b_len T.m_len (EG.toB (v_eg 0))))) (g_name nd 3) gSet_norm
  (ess_one (es_for po rfl (i_range1 T.m_range (EG.toB (v_eg 3))) (g_name nd 4) gSet_norm
  (ess_one (es_if (et_not (et_tst (EF.toB (e_comp [("row", 5)] [5] rfl nd (si_any (v_eg 1)) (fun _ _ _ _ _ => (g_name nd 5)) (fun _ _ _ _ _ => (ets_one (et_cmp (opd_ne hr.units) (EG.toB (eg_ix hr.u1 (EG.toB (v_eg 5)) (EG.toB (v_eg 4)))) (EG.toB (g_call (F_turned T) (by decide) hr takes_none5 (ea_cons (eg_ix hr.u1 (EG.toB (v_eg 5)) (EG.toB (v_eg 3))) ea_nil) (al_cons al_nil)))))) (fun _ _ _ _ _ => (EF.toG ef_int))))))
  (ess_one (s_app 2 (EF.toG (ef_tup (ea_cons (v_eg 4) (ea_cons (v_eg 3) ea_nil))))))
  ess_nil)))))
  (ess_one (es_ret (EF.toG (b_sort rfl hr.units T.m_sorted (v_eb 2))))))))))

theorem F_sure (T : Tx K mg w ea) : Fn P w K mg base ea "sure" (mG K) 12 ["book", "number"] p_sure :=
  DefK.fn T.d_sure ["book", "number", "some", "row"] 11 (goodG K) (fun nd f cdv A outer s H E hr tk po =>
    (ess_cons (es_exp (g_call (F_look T) (by decide) hr tk (ea_cons (v_eg 0) ea_nil) (al_cons al_nil)))
  (ess_cons (es_exp (g_call (F_look_number T) (by decide) hr tk (ea_cons (v_eg 0) (ea_cons (v_eg 1) ea_nil)) (al_cons (al_cons al_nil))))
  (ess_cons (s_set nd 2 (EF.toG (b_sset rfl hr.units T.m_sorted T.m_set (EF.toB (e_comp [("row", 3)] [3] rfl nd (si_any (g_call (F_all_of T) (by decide) hr tk (ea_cons (v_eg 0) ea_nil) (al_cons al_nil))) (fun _ _ _ _ _ => (g_name nd 3)) (fun _ _ _ _ _ => ets_nil) (fun _ _ _ _ _ => (eg_ix hr.u1 (EG.toB (v_eg 3)) (EG.toB (v_eg 1)))))))))
  (ess_one (es_ret (eg_if (et_cmp (opd_eq hr.units) (EF.toB (b_len T.m_len (EG.toB (v_eg 2)))) (EF.toB ef_int)) (eg_ix hr.u1 (EG.toB (v_eg 2)) (EF.toB ef_int)) (EF.toG ef_non))))))))

theorem F_led (T : Tx K mg w ea) : ∀ n : Nat, Fn P w K mg base ea "led" (mG K) (1 + n) ["saying", "names"] (p_led n)
  | 0 => DefK.bad T.d_led ["saying", "names", "part", "one"] 0
  | n + 1 => by
    have ih := F_led T n
    refine DefK.fn T.d_led ["saying", "names", "part", "one"] (1 + n) (b := (sSeq (sIf (tstB (bin dEq (bin dIx (var 0) (con (.int 0))) (con (.str [115, 97, 121, 115]))))
  (sRet (tupE (acons (con (.str [115, 97, 121, 115])) (acons (bin dIx (var 1) (bin dIx (var 0) (con (.int 1)))) anil))))
  sNx)
  (sSeq (sIf (tstB (bin dEq (bin dIx (var 0) (con (.int 0))) (con (.str [109, 97, 110, 121]))))
  (sRet (bin dAdd (cutE (var 0) none (some (con (.int 3)))) (tupE (acons (un dTuple (un dSort (comp (src (bin dIx (var 0) (con (.int 3)))) [3] (gSet 3) yes (bin dIx (var 1) (var 3))))) anil))))
  sNx)
  (sRet (bin dAdd (cutE (var 0) none (some (con (.int 1)))) (un dTuple (comp (src (cutE (var 0) (some (con (.int 1))) none)) [2] (gSet 2) yes (callE (p_led n) (acons (var 2) (acons (var 1) anil)))))))))) (goodG K) (fun nd f cdv A outer s H E hr tk po => ?_)
    exact (ess_cons (es_if (et_cmp (opd_eq hr.units) (EG.toB (eg_ix hr.u1 (EG.toB (v_eg 0)) (EF.toB ef_int))) (EF.toB (c_str (y := [115, 97, 121, 115]))))
  (ess_one (es_ret (EF.toG (ef_tup (ea_cons (EF.toG (c_str (y := [115, 97, 121, 115]))) (ea_cons (eg_ix hr.u1 (EG.toB (v_eg 1)) (EG.toB (eg_ix hr.u1 (EG.toB (v_eg 0)) (EF.toB ef_int)))) ea_nil))))))
  ess_nil)
  (ess_cons (es_if (et_cmp (opd_eq hr.units) (EG.toB (eg_ix hr.u1 (EG.toB (v_eg 0)) (EF.toB ef_int))) (EF.toB (c_str (y := [109, 97, 110, 121]))))
  (ess_one (es_ret (EF.toG (ef_bin opd_add (EF.toB (ef_cut (EG.toB (v_eg 0)) eo_none (eo_some (EF.toB ef_int)))) (EF.toB (ef_tup (ea_cons (EF.toG (b_tuple T.m_tuple (EF.toB (b_sort rfl hr.units T.m_sorted (EF.toB (e_comp [("one", 3)] [3] rfl nd (si_any (eg_ix hr.u1 (EG.toB (v_eg 0)) (EF.toB ef_int))) (fun _ _ _ _ _ => (g_name nd 3)) (fun _ _ _ _ _ => ets_nil) (fun _ _ _ _ _ => (eg_ix hr.u1 (EG.toB (v_eg 1)) (EG.toB (v_eg 3)))))))))) ea_nil)))))))
  ess_nil)
  (ess_one (es_ret (EF.toG (ef_bin opd_add (EF.toB (ef_cut (EG.toB (v_eg 0)) eo_none (eo_some (EF.toB ef_int)))) (EF.toB (b_tuple T.m_tuple (EF.toB (e_comp [("part", 2)] [2] rfl nd (si_any (EF.toG (ef_cut (EG.toB (v_eg 0)) (eo_some (EF.toB ef_int)) eo_none))) (fun _ _ _ _ _ => (g_name nd 2)) (fun _ _ _ _ _ => ets_nil) (fun _ _ _ _ _ => (g_call ih (by omega) hr takes_none5 (ea_cons (v_eg 2) (ea_cons (v_eg 1) ea_nil)) (al_cons (al_cons al_nil))))))))))))))

theorem F_renumbered (T : Tx K mg w ea) : Fn P w K mg base ea "renumbered" (mG K) 12 ["book", "order"] p_renumbered :=
  DefK.fn T.d_renumbered ["book", "order", "names", "one"] 11 (goodG K) (fun nd f cdv A outer s H E hr tk po =>
    (ess_cons (es_exp (g_call (F_look T) (by decide) hr tk (ea_cons (v_eg 0) ea_nil) (al_cons al_nil)))
  (ess_cons (es_if (EW.et (ew_or (et_not (et_tst (EF.toB (b_isi .tuple T.m_isinstance T.m_tuple (EG.toB (v_eg 1)))))) (ew_or1 (et_tst (EF.toB (e_comp [("one", 3)] [3] rfl nd (si_any (v_eg 1)) (fun _ _ _ _ _ => (g_name nd 3)) (fun _ _ _ _ _ => (ets_one (et_not (et_tst (EG.toB (g_call (F_is_within T) (by decide) hr takes_none5 (ea_cons (v_eg 3) (ea_cons (EF.toG ef_int) (ea_cons (EF.toG (ef_bin opd_sub (EF.toB (b_len T.m_len (EG.toB (v_eg 0)))) (EF.toB ef_int))) ea_nil))) (al_cons (al_cons (al_cons al_nil))))))))) (fun _ _ _ _ _ => (v_eg 3))))))))
  (ess_one (s_raise rfl tk T.e_BadOrder))
  ess_nil)
  (ess_cons (es_if (et_cmp (opd_ne hr.units) (EF.toB (b_sortT hr.units T.m_sorted (EG.toB (v_eg 1)))) (EF.toB (b_lrg1 rfl T.m_list T.m_range (EF.toB (b_len T.m_len (EG.toB (v_eg 0)))))))
  (ess_one (s_raise rfl tk T.e_BadOrder))
  ess_nil)
  (ess_cons (s_set nd 2 (EF.toG (e_comp [("one", 3)] [3] rfl nd (i_range1 T.m_range (EF.toB (b_len T.m_len (EG.toB (v_eg 0))))) (fun _ _ _ _ _ => (g_name nd 3)) (fun _ _ _ _ _ => ets_nil) (fun _ _ _ _ _ => (EF.toG (m_tix (EG.toB (v_eg 1)) (EG.toB (v_eg 3))))))))
  (ess_one (es_ret (EF.toG (b_tuple T.m_tuple (EF.toB (e_comp [("one", 3)] [3] rfl nd (si_any (v_eg 1)) (fun _ _ _ _ _ => (g_name nd 3)) (fun _ _ _ _ _ => ets_nil) (fun _ _ _ _ _ => (g_call (F_led T 6) (by decide) hr takes_none5 (ea_cons (eg_ix hr.u1 (EG.toB (v_eg 0)) (EG.toB (v_eg 3))) (ea_cons (v_eg 2) ea_nil)) (al_cons (al_cons al_nil)))))))))))))))

theorem F_side_by_side (T : Tx K mg w ea) : Fn P w K mg base ea "side_by_side" (mG K) 12 ["one", "other"] p_side_by_side :=
  DefK.fn T.d_side_by_side ["one", "other", "saying", "at"] 11 (goodG K) (fun nd f cdv A outer s H E hr tk po =>
    (ess_cons (es_exp (g_call (F_look T) (by decide) hr tk (ea_cons (v_eg 0) ea_nil) (al_cons al_nil)))
  (ess_cons (es_exp (g_call (F_look T) (by decide) hr tk (ea_cons (v_eg 1) ea_nil) (al_cons al_nil)))
  (ess_cons (es_if (et_cmp opd_gt (EF.toB (ef_bin opd_add (EF.toB (b_len T.m_len (EG.toB (v_eg 0)))) (EF.toB (b_len T.m_len (EG.toB (v_eg 1)))))) (EF.toB (c_gint T.g_MOST_SAYINGS)))
  (ess_one (s_raise rfl tk T.e_TooDeep))
  ess_nil)
  (ess_one (es_ret (EF.toG (ef_bin opd_add (EG.toB (v_eg 0)) (EF.toB (b_tuple T.m_tuple (EF.toB (e_comp [("saying", 2)] [2] rfl nd (si_any (v_eg 1)) (fun _ _ _ _ _ => (g_name nd 2)) (fun _ _ _ _ _ => ets_nil) (fun _ _ _ _ _ => (g_call (F_led T 6) (by decide) hr takes_none5 (ea_cons (v_eg 2) (ea_cons (EF.toG (e_comp [("at", 3)] [3] rfl nd (i_range1 T.m_range (EF.toB (b_len T.m_len (EG.toB (v_eg 1))))) (fun _ _ _ _ _ => (g_name nd 3)) (fun _ _ _ _ _ => ets_nil) (fun _ _ _ _ _ => (EF.toG (ef_bin opd_add (EG.toB (v_eg 3)) (EF.toB (b_len T.m_len (EG.toB (v_eg 0))))))))) ea_nil)) (al_cons (al_cons al_nil))))))))))))))))

theorem F_about (T : Tx K mg w ea) : ∀ n : Nat, Fn P w K mg base ea "about" (mG K) (1 + n) ["saying"] (p_about n)
  | 0 => DefK.bad T.d_about ["saying", "word", "size", "part"] 0
  | n + 1 => by
    have ih := F_about T n
    refine DefK.fn T.d_about ["saying", "word", "size", "part"] (1 + n) (b := (sSeq (sSet 1 (bin dIx (var 0) (con (.int 0))))
  (sSeq (sIf (tstB (bin dIn (var 1) (tupE (acons (con (.str [121, 101, 115])) (acons (con (.str [110, 111])) anil)))))
  (sRet (ifE (tstB (bin dEq (var 1) (con (.str [121, 101, 115])))) (tupE (acons (con (.str [110, 111])) anil)) (tupE (acons (con (.str [121, 101, 115])) anil))))
  sNx)
  (sSeq (sIf (tstB (bin dEq (var 1) (con (.str [115, 97, 121, 115]))))
  (sRet (var 0))
  sNx)
  (sSeq (sIf (tstB (bin dEq (var 1) (con (.str [109, 97, 110, 121]))))
  (sSeq (sSet 2 (un dLen (bin dIx (var 0) (con (.int 3)))))
  (sSeq (sIf (tstB (bin dGt (bin dIx (var 0) (con (.int 1))) (var 2)))
  (sRet (tupE (acons (con (.str [121, 101, 115])) anil)))
  sNx)
  (sRet (tupE (acons (con (.str [110, 111, 116])) (acons (tupE (acons (con (.str [109, 97, 110, 121])) (acons (bin dMax2 (con (.int 0)) (bin dSub (var 2) (bin dIx (var 0) (con (.int 2))))) (acons (bin dSub (var 2) (bin dIx (var 0) (con (.int 1)))) (acons (bin dIx (var 0) (con (.int 3))) anil))))) anil))))))
  sNx)
  (sSeq (sSet 1 (bin dIx (dctE (pcons (con (.str [110, 111, 116])) (con (.str [110, 111, 116])) (pcons (con (.str [97, 110, 100])) (con (.str [111, 114])) (pcons (con (.str [111, 114])) (con (.str [97, 110, 100])) pnil)))) (var 1)))
  (sRet (bin dAdd (tupE (acons (var 1) anil)) (un dTuple (comp (src (cutE (var 0) (some (con (.int 1))) none)) [3] (gSet 3) yes (callE (p_about n) (acons (var 3) anil)))))))))))) (goodG K) (fun nd f cdv A outer s H E hr tk po => ?_)
    exact (ess_cons (s_set nd 1 (eg_ix hr.u1 (EG.toB (v_eg 0)) (EF.toB ef_int)))
  (ess_cons (es_if (et_cmp (opd_in hr.u65) (EG.toB (v_eg 1)) (EF.toB (ef_tup (ea_cons (EF.toG (c_str (y := [121, 101, 115]))) (ea_cons (EF.toG (c_str (y := [110, 111]))) ea_nil)))))
  (ess_one (es_ret (EF.toG (ef_if (et_cmp (opd_eq hr.units) (EG.toB (v_eg 1)) (EF.toB (c_str (y := [121, 101, 115])))) (ef_tup (ea_cons (EF.toG (c_str (y := [110, 111]))) ea_nil)) (ef_tup (ea_cons (EF.toG (c_str (y := [121, 101, 115]))) ea_nil))))))
  ess_nil)
  (ess_cons (es_if (et_cmp (opd_eq hr.units) (EG.toB (v_eg 1)) (EF.toB (c_str (y := [115, 97, 121, 115]))))
  (ess_one (es_ret (v_eg 0)))
  ess_nil)
  (ess_cons (es_if (et_cmp (opd_eq hr.units) (EG.toB (v_eg 1)) (EF.toB (c_str (y := [109, 97, 110, 121]))))
  (ess_cons (s_set nd 2 (EF.toG (b_len T.m_len (EG.toB (eg_ix hr.u1 (EG.toB (v_eg 0)) (EF.toB ef_int))))))
  (ess_cons (es_if (et_cmp opd_gt (EG.toB (eg_ix hr.u1 (EG.toB (v_eg 0)) (EF.toB ef_int))) (EG.toB (v_eg 2)))
  (ess_one (es_ret (EF.toG (ef_tup (ea_cons (EF.toG (c_str (y := [121, 101, 115]))) ea_nil)))))
  ess_nil)
  (ess_one (es_ret (EF.toG (ef_tup (ea_cons (EF.toG (c_str (y := [110, 111, 116]))) (ea_cons (EF.toG (ef_tup (ea_cons (EF.toG (c_str (y := [109, 97, 110, 121]))) (ea_cons (EF.toG (b_max2 rfl T.m_max (EF.toB ef_int) (EF.toB (ef_bin opd_sub (EG.toB (v_eg 2)) (EG.toB (eg_ix hr.u1 (EG.toB (v_eg 0)) (EF.toB ef_int))))))) (ea_cons (EF.toG (ef_bin opd_sub (EG.toB (v_eg 2)) (EG.toB (eg_ix hr.u1 (EG.toB (v_eg 0)) (EF.toB ef_int))))) (ea_cons (eg_ix hr.u1 (EG.toB (v_eg 0)) (EF.toB ef_int)) ea_nil)))))) ea_nil))))))))
  ess_nil)
  (ess_cons (s_set nd 1 (eg_ix hr.u1 (EF.toB (ef_dct (eps_cons (EF.toG (c_str (y := [110, 111, 116]))) (EF.toG (c_str (y := [110, 111, 116]))) (eps_cons (EF.toG (c_str (y := [97, 110, 100]))) (EF.toG (c_str (y := [111, 114]))) (eps_cons (EF.toG (c_str (y := [111, 114]))) (EF.toG (c_str (y := [97, 110, 100]))) eps_nil))))) (EG.toB (v_eg 1))))
  (ess_one (es_ret (EF.toG (ef_bin opd_add (EF.toB (ef_tup (ea_cons (v_eg 1) ea_nil))) (EF.toB (b_tuple T.m_tuple (EF.toB (e_comp [("part", 3)] [3] rfl nd (si_any (EF.toG (ef_cut (EG.toB (v_eg 0)) (eo_some (EF.toB ef_int)) eo_none))) (fun _ _ _ _ _ => (g_name nd 3)) (fun _ _ _ _ _ => ets_nil) (fun _ _ _ _ _ => (g_call ih (by omega) hr takes_none5 (ea_cons (v_eg 3) ea_nil) (al_cons al_nil))))))))))))))))

theorem F_turned_about (T : Tx K mg w ea) : Fn P w K mg base ea "turned_about" (mG K) 12 ["book"] p_turned_about :=
  DefK.fn T.d_turned_about ["book", "found", "saying"] 11 (goodG K) (fun nd f cdv A outer s H E hr tk po =>
    (ess_cons (es_exp (g_call (F_look T) (by decide) hr tk (ea_cons (v_eg 0) ea_nil) (al_cons al_nil)))
  (ess_cons (s_set nd 1 (EF.toG (b_tuple T.m_tuple (EF.toB (e_comp [("saying", 2)] [2] rfl nd (si_any (v_eg 0)) (fun _ _ _ _ _ => (g_name nd 2)) (fun _ _ _ _ _ => ets_nil) (fun _ _ _ _ _ => (g_call (F_about T 6) (by decide) hr takes_none5 (ea_cons (v_eg 2) ea_nil) (al_cons al_nil))))))))
  (ess_cons (es_if (et_not (et_tst (EG.toB (g_call (F_is_book T) (by decide) hr tk (ea_cons (v_eg 1) ea_nil) (al_cons al_nil)))))
  (ess_one (s_raise rfl tk T.e_TooDeep))
  ess_nil)
  (ess_one (es_ret (v_eg 1)))))))

theorem F_put (T : Tx K mg w ea) : Fn P w K mg base ea "put" (mG K) 12 ["book", "number", "saying"] p_put :=
  DefK.fn T.d_put ["book", "number", "saying"] 11 (goodG K) (fun nd f cdv A outer s H E hr tk po =>
    (ess_cons (es_exp (g_call (F_look T) (by decide) hr tk (ea_cons (v_eg 0) ea_nil) (al_cons al_nil)))
  (ess_cons (es_exp (g_call (F_look_number T) (by decide) hr tk (ea_cons (v_eg 0) (ea_cons (v_eg 1) ea_nil)) (al_cons (al_cons al_nil))))
  (ess_cons (es_if (et_not (et_tst (EG.toB (g_call (F_is_saying T 6) (by decide) hr tk (ea_cons (EF.toG (b_len T.m_len (EG.toB (v_eg 0)))) (ea_cons (v_eg 2) (ea_cons (EF.toG (c_gint T.g_MOST_DEEP)) ea_nil))) (al_cons (al_cons (al_cons al_nil)))))))
  (ess_one (s_raise rfl tk T.e_BadSaying))
  ess_nil)
  (ess_one (es_ret (EF.toG (ef_bin opd_add (EF.toB (ef_bin opd_add (EF.toB (ef_cut (EG.toB (v_eg 0)) eo_none (eo_some (EG.toB (v_eg 1))))) (EF.toB (ef_tup (ea_cons (v_eg 2) ea_nil))))) (EF.toB (ef_cut (EG.toB (v_eg 0)) (eo_some (EF.toB (ef_bin opd_add (EG.toB (v_eg 1)) (EF.toB ef_int)))) eo_none))))))))))

theorem F_course_of (T : Tx K mg w ea) : Fn P w K mg base ea "course_of" (mG K) 10 ["book", "telling"] p_course_of :=
  DefK.fn T.d_course_of ["book", "telling", "seen", "before", "ring", "at"] 9 (goodG K) (fun nd f cdv A outer s H E hr tk po =>
    (ess_cons (s_own nd 2 (ef_lst (ea_cons (v_eg 1) ea_nil)))
  (ess_cons (es_while po (et_cmp (opd_notIn hr.u65) (EG.toB (g_call (F_next_of T) (by decide) hr tk (ea_cons (v_eg 0) (ea_cons (eg_ix hr.u1 (v_eb 2) (EF.toB (ef_neg (EF.toB ef_int)))) ea_nil)) (al_cons (al_cons al_nil)))) (v_eb 2))
  (ess_one (s_app 2 (g_call (F_next_of T) (by decide) hr tk (ea_cons (v_eg 0) (ea_cons (eg_ix hr.u1 (v_eb 2) (EF.toB (ef_neg (EF.toB ef_int)))) ea_nil)) (al_cons (al_cons al_nil))))))
  (ess_cons (s_set nd 3 (EF.toG (m_lix hr.u65 (v_eb 2) (EG.toB (g_call (F_next_of T) (by decide) hr tk (ea_cons (v_eg 0) (ea_cons (eg_ix hr.u1 (v_eb 2) (EF.toB (ef_neg (EF.toB ef_int)))) ea_nil)) (al_cons (al_cons al_nil)))))))
  (ess_cons (s_set nd 4 (EF.toG (ef_cut (v_eb 2) (eo_some (EG.toB (v_eg 3))) eo_none)))
  (ess_cons (s_set nd 5 (EF.toG (m_lix hr.u65 (EG.toB (v_eg 4)) (EG.toB (g_minL rfl hr.units T.m_min (EG.toB (v_eg 4)))))))
  (ess_one (es_ret (EF.toG (ef_tup (ea_cons (v_eg 3) (ea_cons (EF.toG (ef_bin opd_add (EF.toB (ef_cut (EG.toB (v_eg 4)) (eo_some (EG.toB (v_eg 5))) eo_none)) (EF.toB (ef_cut (EG.toB (v_eg 4)) eo_none (eo_some (EG.toB (v_eg 5))))))) ea_nil))))))))))))

theorem F_course (T : Tx K mg w ea) : Fn P w K mg base ea "course" (mG K) 12 ["book", "telling"] p_course :=
  DefK.fn T.d_course ["book", "telling"] 11 (goodG K) (fun nd f cdv A outer s H E hr tk po =>
    (ess_cons (es_exp (g_call (F_look T) (by decide) hr tk (ea_cons (v_eg 0) ea_nil) (al_cons al_nil)))
  (ess_cons (es_exp (g_call (F_look_telling T) (by decide) hr tk (ea_cons (v_eg 0) (ea_cons (v_eg 1) ea_nil)) (al_cons (al_cons al_nil))))
  (ess_one (es_ret (g_call (F_course_of T) (by decide) hr tk (ea_cons (v_eg 0) (ea_cons (v_eg 1) ea_nil)) (al_cons (al_cons al_nil))))))))

theorem F_all_tellings (T : Tx K mg w ea) : Fn P w K mg base ea "all_tellings" (mG K) 1 ["many"] p_all_tellings :=
  DefK.fn T.d_all_tellings ["many", "found", "place", "longer", "row", "sign"] 0 (goodG K) (fun nd f cdv A outer s H E hr tk po =>
    (ess_cons (s_set nd 1 (EF.toG (ef_lst (ea_cons (EF.toG (c_str (y := []))) ea_nil))))
  (ess_cons (es_for po rfl (i_range1 T.m_range (EG.toB (v_eg 0))) (g_name nd 2) gSet_norm
  (ess_cons (s_own nd 3 (ef_lst ea_nil))
  (ess_cons (es_for po rfl (si_any (v_eg 1)) (g_name nd 4) gSet_norm
  (ess_one (s_ext 3 (EF.toG (e_comp [("sign", 5)] [5] rfl nd (si_any (EF.toG (c_str (y := [102, 110, 116])))) (fun _ _ _ _ _ => (g_name nd 5)) (fun _ _ _ _ _ => ets_nil) (fun _ _ _ _ _ => (EF.toG (ef_bin opd_add (EG.toB (v_eg 4)) (EG.toB (v_eg 5))))))))))
  (ess_one (s_mv nd 1 3)))))
  (ess_one (es_ret (v_eg 1))))))

theorem F_basins (T : Tx K mg w ea) : Fn P w K mg base ea "basins" (mG K) 12 ["book"] p_basins :=
  DefK.fn T.d_basins ["book", "found", "telling", "ring"] 11 (goodG K) (fun nd f cdv A outer s H E hr tk po =>
    (ess_cons (es_exp (g_call (F_look T) (by decide) hr tk (ea_cons (v_eg 0) ea_nil) (al_cons al_nil)))
  (ess_cons es_bad
  (ess_cons (es_for po rfl (si_any (g_call (F_all_tellings T) (by decide) hr tk (ea_cons (EF.toG (b_len T.m_len (EG.toB (v_eg 0)))) ea_nil) (al_cons al_nil))) (g_name nd 2) gSet_norm
  (ess_cons (s_set nd 3 (EF.toG (b_tuple T.m_tuple (EG.toB (eg_ix hr.u1 (EG.toB (g_call (F_course_of T) (by decide) hr tk (ea_cons (v_eg 0) (ea_cons (v_eg 2) ea_nil)) (al_cons (al_cons al_nil)))) (EF.toB ef_int))))))
  (ess_one (s_put hr.u1 1 (EG.toB (v_eg 3)) (EF.toG (ef_bin opd_add (EG.toB (m_get2 hr.u1 (v_eb 1) (EG.toB (v_eg 3)) (EF.toG ef_int))) (EF.toB ef_int)))))))
  (ess_one (es_ret (EF.toG ef_bad)))))))

theorem F_longest_way (T : Tx K mg w ea) : Fn P w K mg base ea "longest_way" (mG K) 12 ["book"] p_longest_way :=
  DefK.fn T.d_longest_way ["book", "rows", "many", "telling"] 11 (goodG K) (fun nd f cdv A outer s H E hr tk po =>
    (ess_cons (es_exp (g_call (F_look T) (by decide) hr tk (ea_cons (v_eg 0) ea_nil) (al_cons al_nil)))
  (ess_cons (s_setLc 1 [("telling", 3)] [3] rfl nd (si_any (g_call (F_all_tellings T) (by decide) hr tk (ea_cons (EF.toG (b_len T.m_len (EG.toB (v_eg 0)))) ea_nil) (al_cons al_nil))) (fun _ _ _ _ _ => (g_name nd 3)) (fun _ _ _ _ _ => ets_nil) (fun _ _ _ _ _ => (EF.toG (ef_tup (ea_cons (EF.toG (ef_neg (EG.toB (eg_ix hr.u1 (EG.toB (g_call (F_course_of T) (by decide) hr takes_none5 (ea_cons (v_eg 0) (ea_cons (v_eg 3) ea_nil)) (al_cons (al_cons al_nil)))) (EF.toB ef_int))))) (ea_cons (v_eg 3) ea_nil))))))
  (ess_cons (es_unp (g_minL rfl hr.units T.m_min (EG.toB (v_eg 1))) (g_tup2 rfl nd 2 3) gTup_norm)
  (ess_one (es_ret (EF.toG (ef_tup (ea_cons (EF.toG (ef_neg (EG.toB (v_eg 2)))) (ea_cons (v_eg 3) ea_nil))))))))))

theorem F__law_cell (T : Tx K mg w ea) : Fn P w K mg base ea "_law_cell" (mG K) 1 ["_law_script", "_law_k"] l_cell :=
  DefK.fn T.d__law_cell ["_law_script", "_law_k"] 0 (goodG K) (fun nd f cdv A outer s H E hr tk po =>
    (ess_cons (es_if (et_cmp opd_lt (EG.toB (v_eg 1)) (EF.toB (b_len T.m_len (EG.toB (v_eg 0)))))
  (ess_one (es_ret (eg_ix hr.u1 (EG.toB (v_eg 0)) (EG.toB (v_eg 1)))))
  ess_nil)
  (ess_one (es_ret (EF.toG ef_int)))))

theorem F__law_seed (T : Tx K mg w ea) : Fn P w K mg base ea "_law_seed" (mG K) 1 ["_law_seed_here", "_law_k"] l_seed :=
  DefK.fn T.d__law_seed ["_law_seed_here", "_law_k"] 0 (goodG K) (fun nd f cdv A outer s H E hr tk po =>
    (ess_one (es_ret (EF.toG (ef_bin opd_mod (EF.toB (ef_bin opd_pow (EF.toB (ef_bin opd_mod (EF.toB (ef_bin opd_add (EF.toB (ef_bin opd_add (EF.toB (ef_bin opd_mul (EG.toB (v_eg 0)) (EF.toB ef_int))) (EF.toB (ef_bin opd_mul (EF.toB ef_int) (EG.toB (v_eg 1)))))) (EF.toB ef_int))) (EF.toB ef_int))) (EF.toB ef_int))) (EF.toB ef_int))))))

theorem F__law_pick (T : Tx K mg w ea) : Fn P w K mg base ea "_law_pick" (mG K) 1 ["_law_seed_here", "_law_many"] l_pick :=
  DefK.fn T.d__law_pick ["_law_seed_here", "_law_many"] 0 (goodG K) (fun nd f cdv A outer s H E hr tk po =>
    (ess_one (es_ret (EF.toG (ef_bin opd_mod (EF.toB (ef_bin opd_div (EG.toB (v_eg 0)) (EF.toB ef_int))) (EG.toB (v_eg 1)))))))

theorem F__law_saying (T : Tx K mg w ea) : ∀ n : Nat, Fn P w K mg base ea "_law_saying" (mG K) (2 + n) ["_law_seed_here", "_law_many", "_law_deep"] (l_saying n)
  | 0 => DefK.bad T.d__law_saying ["_law_seed_here", "_law_many", "_law_deep", "_law_pick_here", "_law_one", "_law_low", "_law_row"] 1
  | n + 1 => by
    have ih := F__law_saying T n
    refine DefK.fn T.d__law_saying ["_law_seed_here", "_law_many", "_law_deep", "_law_pick_here", "_law_one", "_law_low", "_law_row"] (2 + n) (b := (sSeq (sSet 3 (callE l_pick (acons (var 0) (acons (con (.int 12)) anil))))
  (sSeq (sIf (andT (tstB (bin dGt (var 2) (con (.int 1)))) (tstB (bin dLt (var 3) (con (.int 7)))))
  (sSeq (sSet 4 (callE (l_saying n) (acons (callE l_seed (acons (var 0) (acons (con (.int 1)) anil))) (acons (var 1) (acons (bin dSub (var 2) (con (.int 1))) anil)))))
  (sSeq (sIf (tstB (bin dLt (var 3) (con (.int 3))))
  (sRet (tupE (acons (con (.str [110, 111, 116])) (acons (var 4) anil))))
  sNx)
  (sRet (tupE (acons (bin dIx (lstE (acons (con (.str [97, 110, 100])) (acons (con (.str [111, 114])) anil))) (bin dMod (var 3) (con (.int 2)))) (acons (var 4) (acons (callE (l_saying n) (acons (callE l_seed (acons (var 0) (acons (con (.int 2)) anil))) (acons (var 1) (acons (bin dSub (var 2) (con (.int 1))) anil)))) anil)))))))
  sNx)
  (sSeq (sIf (tstB (bin dLt (var 3) (con (.int 10))))
  (sRet (tupE (acons (con (.str [115, 97, 121, 115])) (acons (bin dMod (bin dDiv (var 0) (con (.int 7))) (var 1)) anil))))
  sNx)
  (sSeq (sIf (tstB (bin dEq (var 3) (con (.int 10))))
  (sRet (tupE (acons (bin dIx (lstE (acons (con (.str [121, 101, 115])) (acons (con (.str [110, 111])) anil))) (bin dMod (bin dDiv (var 0) (con (.int 7))) (con (.int 2)))) anil)))
  sNx)
  (sSeq (sSet 5 (bin dMod (bin dDiv (var 0) (con (.int 7))) (bin dAdd (var 1) (con (.int 1)))))
  (sSeq (sSet 6 (un dTuple (comp (srcR1 (var 1)) [4] (gSet 4) (tstB (bin dGt (bin dMod (bin dDiv (callE l_seed (acons (var 0) (acons (var 4) anil))) (con (.int 5))) (con (.int 3))) (con (.int 0)))) (var 4))))
  (sRet (tupE (acons (con (.str [109, 97, 110, 121])) (acons (var 5) (acons (bin dAdd (var 5) (bin dMod (bin dDiv (var 0) (con (.int 11))) (bin dSub (bin dAdd (var 1) (con (.int 1))) (var 5)))) (acons (var 6) anil))))))))))))) (goodG K) (fun nd f cdv A outer s H E hr tk po => ?_)
    exact (ess_cons (s_set nd 3 (g_call (F__law_pick T) (by omega) hr tk (ea_cons (v_eg 0) (ea_cons (EF.toG ef_int) ea_nil)) (al_cons (al_cons al_nil))))
  (ess_cons (es_if (EW.et (ew_and (et_cmp opd_gt (EG.toB (v_eg 2)) (EF.toB ef_int)) (ew_and1 (et_cmp opd_lt (EG.toB (v_eg 3)) (EF.toB ef_int)))))
  (ess_cons (s_set nd 4 (g_call ih (by omega) hr tk (ea_cons (g_call (F__law_seed T) (by omega) hr tk (ea_cons (v_eg 0) (ea_cons (EF.toG ef_int) ea_nil)) (al_cons (al_cons al_nil))) (ea_cons (v_eg 1) (ea_cons (EF.toG (ef_bin opd_sub (EG.toB (v_eg 2)) (EF.toB ef_int))) ea_nil))) (al_cons (al_cons (al_cons al_nil)))))
  (ess_cons (es_if (et_cmp opd_lt (EG.toB (v_eg 3)) (EF.toB ef_int))
  (ess_one (es_ret (EF.toG (ef_tup (ea_cons (EF.toG (c_str (y := [110, 111, 116]))) (ea_cons (v_eg 4) ea_nil))))))
  ess_nil)
  (ess_one (es_ret (EF.toG (ef_tup (ea_cons (eg_ix hr.u1 (EF.toB (ef_lst (ea_cons (EF.toG (c_str (y := [97, 110, 100]))) (ea_cons (EF.toG (c_str (y := [111, 114]))) ea_nil)))) (EF.toB (ef_bin opd_mod (EG.toB (v_eg 3)) (EF.toB ef_int)))) (ea_cons (v_eg 4) (ea_cons (g_call ih (by omega) hr tk (ea_cons (g_call (F__law_seed T) (by omega) hr tk (ea_cons (v_eg 0) (ea_cons (EF.toG ef_int) ea_nil)) (al_cons (al_cons al_nil))) (ea_cons (v_eg 1) (ea_cons (EF.toG (ef_bin opd_sub (EG.toB (v_eg 2)) (EF.toB ef_int))) ea_nil))) (al_cons (al_cons (al_cons al_nil)))) ea_nil)))))))))
  ess_nil)
  (ess_cons (es_if (et_cmp opd_lt (EG.toB (v_eg 3)) (EF.toB ef_int))
  (ess_one (es_ret (EF.toG (ef_tup (ea_cons (EF.toG (c_str (y := [115, 97, 121, 115]))) (ea_cons (EF.toG (ef_bin opd_mod (EF.toB (ef_bin opd_div (EG.toB (v_eg 0)) (EF.toB ef_int))) (EG.toB (v_eg 1)))) ea_nil))))))
  ess_nil)
  (ess_cons (es_if (et_cmp (opd_eq hr.units) (EG.toB (v_eg 3)) (EF.toB ef_int))
  (ess_one (es_ret (EF.toG (ef_tup (ea_cons (eg_ix hr.u1 (EF.toB (ef_lst (ea_cons (EF.toG (c_str (y := [121, 101, 115]))) (ea_cons (EF.toG (c_str (y := [110, 111]))) ea_nil)))) (EF.toB (ef_bin opd_mod (EF.toB (ef_bin opd_div (EG.toB (v_eg 0)) (EF.toB ef_int))) (EF.toB ef_int)))) ea_nil)))))
  ess_nil)
  (ess_cons (s_set nd 5 (EF.toG (ef_bin opd_mod (EF.toB (ef_bin opd_div (EG.toB (v_eg 0)) (EF.toB ef_int))) (EF.toB (ef_bin opd_add (EG.toB (v_eg 1)) (EF.toB ef_int))))))
  (ess_cons (s_set nd 6 (EF.toG (b_tuple T.m_tuple (EF.toB (e_comp [("_law_one", 4)] [4] rfl nd (i_range1 T.m_range (EG.toB (v_eg 1))) (fun _ _ _ _ _ => (g_name nd 4)) (fun _ _ _ _ _ => (ets_one (et_cmp opd_gt (EF.toB (ef_bin opd_mod (EF.toB (ef_bin opd_div (EG.toB (g_call (F__law_seed T) (by omega) hr takes_none5 (ea_cons (v_eg 0) (ea_cons (v_eg 4) ea_nil)) (al_cons (al_cons al_nil)))) (EF.toB ef_int))) (EF.toB ef_int))) (EF.toB ef_int)))) (fun _ _ _ _ _ => (v_eg 4)))))))
  (ess_one (es_ret (EF.toG (ef_tup (ea_cons (EF.toG (c_str (y := [109, 97, 110, 121]))) (ea_cons (v_eg 5) (ea_cons (EF.toG (ef_bin opd_add (EG.toB (v_eg 5)) (EF.toB (ef_bin opd_mod (EF.toB (ef_bin opd_div (EG.toB (v_eg 0)) (EF.toB ef_int))) (EF.toB (ef_bin opd_sub (EF.toB (ef_bin opd_add (EG.toB (v_eg 1)) (EF.toB ef_int))) (EG.toB (v_eg 5)))))))) (ea_cons (v_eg 6) ea_nil))))))))))))))

theorem F__law_book (T : Tx K mg w ea) : Fn P w K mg base ea "_law_book" (mG K) 9 ["_law_script", "_law_at"] l_book :=
  DefK.fn T.d__law_book ["_law_script", "_law_at", "_law_seed_here", "_law_many", "_law_found", "_law_k", "_law_one"] 8 (goodG K) (fun nd f cdv A outer s H E hr tk po =>
    (ess_cons (s_set nd 2 (g_call (F__law_seed T) (by decide) hr tk (ea_cons (g_call (F__law_cell T) (by decide) hr tk (ea_cons (v_eg 0) (ea_cons (v_eg 1) ea_nil)) (al_cons (al_cons al_nil))) (ea_cons (EF.toG ef_int) ea_nil)) (al_cons (al_cons al_nil))))
  (ess_cons (s_set nd 3 (eg_ix hr.u1 (EF.toB (ef_lst (ea_cons (EF.toG (ef_bin opd_add (EF.toB ef_int) (EF.toB (ef_bin opd_mod (EF.toB (ef_bin opd_div (EG.toB (v_eg 2)) (EF.toB ef_int))) (EF.toB ef_int))))) (ea_cons (EF.toG ef_int) (ea_cons (EF.toG ef_int) (ea_cons (EF.toG ef_int) ea_nil)))))) (EF.toB (ef_bin opd_mod (EF.toB (ef_bin opd_div (EG.toB (v_eg 2)) (EF.toB ef_int))) (EF.toB ef_int)))))
  (ess_cons (s_own nd 4 (ef_lst ea_nil))
  (ess_cons (es_for po rfl (i_range1 T.m_range (EG.toB (v_eg 3))) (g_name nd 5) gSet_norm
  (ess_cons (s_set nd 6 (g_call (F__law_seed T) (by decide) hr tk (ea_cons (EF.toG (ef_bin opd_add (EG.toB (g_call (F__law_cell T) (by decide) hr tk (ea_cons (v_eg 0) (ea_cons (EF.toG (ef_bin opd_add (EF.toB (ef_bin opd_add (EG.toB (v_eg 1)) (EF.toB ef_int))) (EF.toB (ef_bin opd_mod (EG.toB (v_eg 5)) (EF.toB ef_int))))) ea_nil)) (al_cons (al_cons al_nil)))) (EF.toB (ef_bin opd_mul (EF.toB ef_int) (EG.toB (v_eg 5)))))) (ea_cons (v_eg 5) ea_nil)) (al_cons (al_cons al_nil))))
  (ess_one (s_app 4 (g_call (F__law_saying T 6) (by decide) hr tk (ea_cons (v_eg 6) (ea_cons (v_eg 3) (ea_cons (eg_ix hr.u1 (EF.toB (ef_lst (ea_cons (EF.toG ef_int) (ea_cons (EF.toG ef_int) (ea_cons (EF.toG ef_int) (ea_cons (EF.toG ef_int) ea_nil)))))) (EF.toB (ef_bin opd_mod (EF.toB (ef_bin opd_div (EG.toB (v_eg 6)) (EF.toB ef_int))) (EF.toB ef_int)))) ea_nil))) (al_cons (al_cons (al_cons al_nil))))))))
  (ess_one (es_ret (EF.toG (b_tuple T.m_tuple (v_eb 4))))))))))

theorem F__law_counted (T : Tx K mg w ea) : Fn P w K mg base ea "_law_counted" (mG K) 1 ["_law_low", "_law_high", "_law_signs_here"] l_counted :=
  DefK.fn T.d__law_counted ["_law_low", "_law_high", "_law_signs_here", "_law_rows", "_law_one", "_law_more", "_law_longer", "_law_many", "_law_told", "_law_step"] 0 (goodG K) (fun nd f cdv A outer s H E hr tk po =>
    (ess_cons (s_set nd 3 (EF.toG (ef_lst (ea_cons (EF.toG ef_int) ea_nil))))
  (ess_cons (es_for po rfl (si_any (v_eg 2)) (g_name nd 4) gSet_norm
  (ess_cons (s_set nd 5 (eg_ix hr.u1 (EF.toB (ef_dct (eps_cons (EF.toG (c_str (y := [116]))) (EF.toG (ef_lst (ea_cons (EF.toG ef_int) ea_nil))) (eps_cons (EF.toG (c_str (y := [102]))) (EF.toG (ef_lst (ea_cons (EF.toG ef_int) ea_nil))) (eps_cons (EF.toG (c_str (y := [110]))) (EF.toG (ef_lst (ea_cons (EF.toG ef_int) (ea_cons (EF.toG ef_int) ea_nil)))) eps_nil))))) (EG.toB (v_eg 4))))
  (ess_cons (s_set nd 6 (EF.toG (ef_lst ea_nil)))
  (ess_cons (es_for po rfl (si_any (v_eg 3)) (g_name nd 7) gSet_norm
  (ess_one (s_set nd 6 (EF.toG (ef_bin opd_add (EG.toB (v_eg 6)) (EF.toB (e_comp [("_law_step", 9)] [9] rfl nd (si_any (v_eg 5)) (fun _ _ _ _ _ => (g_name nd 9)) (fun _ _ _ _ _ => ets_nil) (fun _ _ _ _ _ => (EF.toG (ef_bin opd_add (EG.toB (v_eg 7)) (EG.toB (v_eg 9))))))))))))
  (ess_one (s_set nd 3 (v_eg 6)))))))
  (ess_cons (s_set nd 8 (EF.toG (b_sset rfl hr.units T.m_sorted T.m_set (EF.toB (e_comp [("_law_many", 7)] [7] rfl nd (si_any (v_eg 3)) (fun _ _ _ _ _ => (g_name nd 7)) (fun _ _ _ _ _ => ets_nil) (fun _ _ _ _ _ => (EF.toG (ef_chain opd_le opd_le (EG.toB (v_eg 0)) (EG.toB (v_eg 7)) (EG.toB (v_eg 1))))))))))
  (ess_one (es_ret (eg_if (et_cmp (opd_eq hr.units) (EF.toB (b_len T.m_len (EG.toB (v_eg 8)))) (EF.toB ef_int)) (EF.toG (c_str (y := [110]))) (eg_ix hr.u1 (EF.toB (c_str (y := [102, 116]))) (EF.toB (b_int T.m_int (EG.toB (eg_ix hr.u1 (EG.toB (v_eg 8)) (EF.toB ef_int)))))))))))))

theorem F__law_worth (T : Tx K mg w ea) : ∀ n : Nat, Fn P w K mg base ea "_law_worth" (mG K) (2 + n) ["_law_telling", "_law_saying_here"] (l_worth n)
  | 0 => DefK.bad T.d__law_worth ["_law_telling", "_law_saying_here", "_law_word", "_law_some", "_law_part", "_law_one"] 1
  | n + 1 => by
    have ih := F__law_worth T n
    refine DefK.fn T.d__law_worth ["_law_telling", "_law_saying_here", "_law_word", "_law_some", "_law_part", "_law_one"] (2 + n) (b := (sSeq (sSet 2 (bin dIx (var 1) (con (.int 0))))
  (sSeq (sIf (tstB (bin dIn (var 2) (tupE (acons (con (.str [121, 101, 115])) (acons (con (.str [110, 111])) anil)))))
  (sRet (bin dIx (con (.str [102, 116])) (un dInt (bin dEq (var 2) (con (.str [121, 101, 115]))))))
  sNx)
  (sSeq (sIf (tstB (bin dEq (var 2) (con (.str [115, 97, 121, 115]))))
  (sRet (bin dIx (var 0) (bin dIx (var 1) (con (.int 1)))))
  sNx)
  (sSeq (sIf (tstB (bin dEq (var 2) (con (.str [109, 97, 110, 121]))))
  (sRet (callE l_counted (acons (bin dIx (var 1) (con (.int 1))) (acons (bin dIx (var 1) (con (.int 2))) (acons (comp (src (bin dIx (var 1) (con (.int 3)))) [5] (gSet 5) yes (bin dIx (var 0) (var 5))) anil)))))
  sNx)
  (sSeq (sSet 3 (comp (src (cutE (var 1) (some (con (.int 1))) none)) [4] (gSet 4) yes (callE (l_worth n) (acons (var 0) (acons (var 4) anil)))))
  (sSeq (sIf (tstB (bin dEq (var 2) (con (.str [110, 111, 116]))))
  (sRet (bin dIx (con (.str [116, 110, 102])) (meth isS dSIndex (con (.str [102, 110, 116])) (bin dIx (var 3) (con (.int 0))))))
  sNx)
  (sRet (callE l_counted (acons (ifE (tstB (bin dEq (var 2) (con (.str [97, 110, 100])))) (con (.int 2)) (con (.int 1))) (acons (con (.int 2)) (acons (var 3) anil)))))))))))) (goodG K) (fun nd f cdv A outer s H E hr tk po => ?_)
    exact (ess_cons (s_set nd 2 (eg_ix hr.u1 (EG.toB (v_eg 1)) (EF.toB ef_int)))
  (ess_cons (es_if (et_cmp (opd_in hr.u65) (EG.toB (v_eg 2)) (EF.toB (ef_tup (ea_cons (EF.toG (c_str (y := [121, 101, 115]))) (ea_cons (EF.toG (c_str (y := [110, 111]))) ea_nil)))))
  (ess_one (es_ret (eg_ix hr.u1 (EF.toB (c_str (y := [102, 116]))) (EF.toB (b_int T.m_int (EF.toB (ef_cmp (opd_eq hr.units) (EG.toB (v_eg 2)) (EF.toB (c_str (y := [121, 101, 115]))))))))))
  ess_nil)
  (ess_cons (es_if (et_cmp (opd_eq hr.units) (EG.toB (v_eg 2)) (EF.toB (c_str (y := [115, 97, 121, 115]))))
  (ess_one (es_ret (eg_ix hr.u1 (EG.toB (v_eg 0)) (EG.toB (eg_ix hr.u1 (EG.toB (v_eg 1)) (EF.toB ef_int))))))
  ess_nil)
  (ess_cons (es_if (et_cmp (opd_eq hr.units) (EG.toB (v_eg 2)) (EF.toB (c_str (y := [109, 97, 110, 121]))))
  (ess_one (es_ret (g_call (F__law_counted T) (by omega) hr tk (ea_cons (eg_ix hr.u1 (EG.toB (v_eg 1)) (EF.toB ef_int)) (ea_cons (eg_ix hr.u1 (EG.toB (v_eg 1)) (EF.toB ef_int)) (ea_cons (EF.toG (e_comp [("_law_one", 5)] [5] rfl nd (si_any (eg_ix hr.u1 (EG.toB (v_eg 1)) (EF.toB ef_int))) (fun _ _ _ _ _ => (g_name nd 5)) (fun _ _ _ _ _ => ets_nil) (fun _ _ _ _ _ => (eg_ix hr.u1 (EG.toB (v_eg 0)) (EG.toB (v_eg 5)))))) ea_nil))) (al_cons (al_cons (al_cons al_nil))))))
  ess_nil)
  (ess_cons (s_setLc 3 [("_law_part", 4)] [4] rfl nd (si_any (EF.toG (ef_cut (EG.toB (v_eg 1)) (eo_some (EF.toB ef_int)) eo_none))) (fun _ _ _ _ _ => (g_name nd 4)) (fun _ _ _ _ _ => ets_nil) (fun _ _ _ _ _ => (g_call ih (by omega) hr takes_none5 (ea_cons (v_eg 0) (ea_cons (v_eg 4) ea_nil)) (al_cons (al_cons al_nil)))))
  (ess_cons (es_if (et_cmp (opd_eq hr.units) (EG.toB (v_eg 2)) (EF.toB (c_str (y := [110, 111, 116]))))
  (ess_one (es_ret (eg_ix hr.u1 (EF.toB (c_str (y := [116, 110, 102]))) (EF.toB (m_sindex (EF.toB (c_str (y := [102, 110, 116]))) (EG.toB (eg_ix hr.u1 (EG.toB (v_eg 3)) (EF.toB ef_int))))))))
  ess_nil)
  (ess_one (es_ret (g_call (F__law_counted T) (by omega) hr tk (ea_cons (EF.toG (ef_if (et_cmp (opd_eq hr.units) (EG.toB (v_eg 2)) (EF.toB (c_str (y := [97, 110, 100])))) ef_int ef_int)) (ea_cons (EF.toG ef_int) (ea_cons (v_eg 3) ea_nil))) (al_cons (al_cons (al_cons al_nil))))))))))))

theorem F__law_next (T : Tx K mg w ea) : Fn P w K mg base ea "_law_next" (mG K) 9 ["_law_book_here", "_law_telling"] l_next :=
  DefK.fn T.d__law_next ["_law_book_here", "_law_telling", "_law_saying_here"] 8 (goodG K) (fun nd f cdv A outer s H E hr tk po =>
    (ess_one (es_ret (EF.toG (m_join (EF.toB (c_str (y := []))) (EF.toB (e_comp [("_law_saying_here", 2)] [2] rfl nd (si_any (v_eg 0)) (fun _ _ _ _ _ => (g_name nd 2)) (fun _ _ _ _ _ => ets_nil) (fun _ _ _ _ _ => (g_call (F__law_worth T 6) (by decide) hr takes_none5 (ea_cons (v_eg 1) (ea_cons (v_eg 2) ea_nil)) (al_cons (al_cons al_nil)))))))))))

theorem F__law_back (T : Tx K mg w ea) : ∀ n : Nat, Fn P w K mg base ea "_law_back" (mG K) (1 + n) ["_law_saying_here", "_law_many"] (l_back n)
  | 0 => DefK.bad T.d__law_back ["_law_saying_here", "_law_many", "_law_low", "_law_high", "_law_part", "_law_one"] 0
  | n + 1 => by
    have ih := F__law_back T n
    refine DefK.fn T.d__law_back ["_law_saying_here", "_law_many", "_law_low", "_law_high", "_law_part", "_law_one"] (1 + n) (b := (sSeq (sIf (tstB (bin dEq (bin dIx (var 0) (con (.int 0))) (con (.str [115, 97, 121, 115]))))
  (sRet (tupE (acons (con (.str [115, 97, 121, 115])) (acons (bin dMod (bin dIx (var 0) (con (.int 1))) (var 1)) anil))))
  sNx)
  (sSeq (sIf (tstB (bin dEq (bin dIx (var 0) (con (.int 0))) (con (.str [109, 97, 110, 121]))))
  (sSeq (sPar [2, 3] (acons (bin dMin2 (bin dIx (var 0) (con (.int 1))) (var 1)) (acons (bin dMin2 (bin dIx (var 0) (con (.int 2))) (var 1)) anil)))
  (sRet (tupE (acons (con (.str [109, 97, 110, 121])) (acons (var 2) (acons (var 3) (acons (un dTuple (comp (src (bin dIx (var 0) (con (.int 3)))) [5] (gSet 5) (tstB (bin dLt (var 5) (var 1))) (var 5))) anil)))))))
  sNx)
  (sRet (bin dAdd (cutE (var 0) none (some (con (.int 1)))) (un dTuple (comp (src (cutE (var 0) (some (con (.int 1))) none)) [4] (gSet 4) yes (callE (l_back n) (acons (var 4) (acons (var 1) anil)))))))))) (goodG K) (fun nd f cdv A outer s H E hr tk po => ?_)
    exact (ess_cons (es_if (et_cmp (opd_eq hr.units) (EG.toB (eg_ix hr.u1 (EG.toB (v_eg 0)) (EF.toB ef_int))) (EF.toB (c_str (y := [115, 97, 121, 115]))))
  (ess_one (es_ret (EF.toG (ef_tup (ea_cons (EF.toG (c_str (y := [115, 97, 121, 115]))) (ea_cons (EF.toG (ef_bin opd_mod (EG.toB (eg_ix hr.u1 (EG.toB (v_eg 0)) (EF.toB ef_int))) (EG.toB (v_eg 1)))) ea_nil))))))
  ess_nil)
  (ess_cons (es_if (et_cmp (opd_eq hr.units) (EG.toB (eg_ix hr.u1 (EG.toB (v_eg 0)) (EF.toB ef_int))) (EF.toB (c_str (y := [109, 97, 110, 121]))))
  (ess_cons (s_par rfl nd (by decide) (ea_cons (EF.toG (b_min2 rfl T.m_min (EG.toB (eg_ix hr.u1 (EG.toB (v_eg 0)) (EF.toB ef_int))) (EG.toB (v_eg 1)))) (ea_cons (EF.toG (b_min2 rfl T.m_min (EG.toB (eg_ix hr.u1 (EG.toB (v_eg 0)) (EF.toB ef_int))) (EG.toB (v_eg 1)))) ea_nil)))
  (ess_one (es_ret (EF.toG (ef_tup (ea_cons (EF.toG (c_str (y := [109, 97, 110, 121]))) (ea_cons (v_eg 2) (ea_cons (v_eg 3) (ea_cons (EF.toG (b_tuple T.m_tuple (EF.toB (e_comp [("_law_one", 5)] [5] rfl nd (si_any (eg_ix hr.u1 (EG.toB (v_eg 0)) (EF.toB ef_int))) (fun _ _ _ _ _ => (g_name nd 5)) (fun _ _ _ _ _ => (ets_one (et_cmp opd_lt (EG.toB (v_eg 5)) (EG.toB (v_eg 1))))) (fun _ _ _ _ _ => (v_eg 5)))))) ea_nil)))))))))
  ess_nil)
  (ess_one (es_ret (EF.toG (ef_bin opd_add (EF.toB (ef_cut (EG.toB (v_eg 0)) eo_none (eo_some (EF.toB ef_int)))) (EF.toB (b_tuple T.m_tuple (EF.toB (e_comp [("_law_part", 4)] [4] rfl nd (si_any (EF.toG (ef_cut (EG.toB (v_eg 0)) (eo_some (EF.toB ef_int)) eo_none))) (fun _ _ _ _ _ => (g_name nd 4)) (fun _ _ _ _ _ => ets_nil) (fun _ _ _ _ _ => (g_call ih (by omega) hr takes_none5 (ea_cons (v_eg 4) (ea_cons (v_eg 1) ea_nil)) (al_cons (al_cons al_nil))))))))))))))

theorem F__law_cut (T : Tx K mg w ea) : Fn P w K mg base ea "_law_cut" (mG K) 10 ["_law_book_here", "_law_many"] l_cut :=
  DefK.fn T.d__law_cut ["_law_book_here", "_law_many", "_law_found", "_law_saying_here"] 9 (goodG K) (fun nd f cdv A outer s H E hr tk po =>
    (ess_cons (s_own nd 2 (ef_lst ea_nil))
  (ess_cons (es_for po rfl (si_any (EF.toG (ef_cut (EG.toB (v_eg 0)) eo_none (eo_some (EG.toB (v_eg 1)))))) (g_name nd 3) gSet_norm
  (ess_one (s_app 2 (g_call (F__law_back T 8) (by decide) hr tk (ea_cons (v_eg 3) (ea_cons (EF.toG (b_len T.m_len (EF.toB (ef_cut (EG.toB (v_eg 0)) eo_none (eo_some (EG.toB (v_eg 1))))))) ea_nil)) (al_cons (al_cons al_nil))))))
  (ess_one (es_ret (EF.toG (b_tuple T.m_tuple (v_eb 2))))))))

theorem F__law_grounded (T : Tx K mg w ea) : Fn P w K mg base ea "_law_grounded" (mG K) 10 ["_law_book_here", "_law_known_here"] l_grounded :=
  DefK.fn T.d__law_grounded ["_law_book_here", "_law_known_here", "_law_some", "_law_here", "_law_telling", "_law_at", "_law_saying_here"] 9 (goodG K) (fun nd f cdv A outer s H E hr tk po =>
    (ess_cons (s_set nd 2 (EF.toG (b_dpairsK rfl T.m_dict (EG.toB (v_eg 1)))))
  (ess_cons (s_set nd 3 (EF.toG (b_tuple T.m_tuple (EF.toB (e_comp [("_law_at", 5), ("_law_saying_here", 6)] [5, 6] rfl nd (i_enum T.m_enumerate (v_eg 0)) (fun _ _ _ _ _ => (g_tup2 rfl nd 5 6)) (fun _ _ _ _ _ => ets_nil) (fun _ _ _ _ _ => (eg_if (et_cmp (opd_in hr.u65) (EG.toB (v_eg 5)) (EG.toB (v_eg 2))) (EF.toG (ef_tup (ea_cons (eg_ix hr.u1 (EF.toB (ef_lst (ea_cons (EF.toG (c_str (y := [110, 111]))) (ea_cons (EF.toG (c_str (y := [121, 101, 115]))) ea_nil)))) (EF.toB (m_sindex (EF.toB (c_str (y := [102, 116]))) (EG.toB (eg_ix hr.u1 (EG.toB (v_eg 2)) (EG.toB (v_eg 5))))))) ea_nil))) (v_eg 6))))))))
  (ess_cons (s_set nd 4 (EF.toG (ef_bin opd_mul (EF.toB (c_str (y := [110]))) (EF.toB (b_len T.m_len (EG.toB (v_eg 3)))))))
  (ess_cons (es_while po (et_cmp (opd_ne hr.units) (EG.toB (g_call (F__law_next T) (by decide) hr tk (ea_cons (v_eg 3) (ea_cons (v_eg 4) ea_nil)) (al_cons (al_cons al_nil)))) (EG.toB (v_eg 4)))
  (ess_one (s_set nd 4 (g_call (F__law_next T) (by decide) hr tk (ea_cons (v_eg 3) (ea_cons (v_eg 4) ea_nil)) (al_cons (al_cons al_nil))))))
  (ess_one (es_ret (v_eg 4))))))))

theorem F__law_all_known (T : Tx K mg w ea) : Fn P w K mg base ea "_law_all_known" (mG K) 1 ["_law_many"] l_all_known :=
  DefK.fn T.d__law_all_known ["_law_many", "_law_found", "_law_at", "_law_row"] 0 (goodG K) (fun nd f cdv A outer s H E hr tk po =>
    (ess_cons (s_set nd 1 (EF.toG (ef_lst (ea_cons (EF.toG (ef_tup ea_nil)) ea_nil))))
  (ess_cons (es_for po rfl (i_range1 T.m_range (EG.toB (v_eg 0))) (g_name nd 2) gSet_norm
  (ess_one (s_set nd 1 (EF.toG (ef_bin opd_add (EF.toB (ef_bin opd_add (EG.toB (v_eg 1)) (EF.toB (e_comp [("_law_row", 3)] [3] rfl nd (si_any (v_eg 1)) (fun _ _ _ _ _ => (g_name nd 3)) (fun _ _ _ _ _ => ets_nil) (fun _ _ _ _ _ => (EF.toG (ef_bin opd_add (EG.toB (v_eg 3)) (EF.toB (ef_tup (ea_cons (EF.toG (ef_tup (ea_cons (v_eg 2) (ea_cons (EF.toG (c_str (y := [102]))) ea_nil)))) ea_nil)))))))))) (EF.toB (e_comp [("_law_row", 3)] [3] rfl nd (si_any (v_eg 1)) (fun _ _ _ _ _ => (g_name nd 3)) (fun _ _ _ _ _ => ets_nil) (fun _ _ _ _ _ => (EF.toG (ef_bin opd_add (EG.toB (v_eg 3)) (EF.toB (ef_tup (ea_cons (EF.toG (ef_tup (ea_cons (v_eg 2) (ea_cons (EF.toG (c_str (y := [116]))) ea_nil)))) ea_nil)))))))))))))
  (ess_one (es_ret (v_eg 1))))))

theorem F__law_known (T : Tx K mg w ea) : Fn P w K mg base ea "_law_known" (mG K) 2 ["_law_seed_here", "_law_many"] l_known :=
  DefK.fn T.d__law_known ["_law_seed_here", "_law_many", "_law_at"] 1 (goodG K) (fun nd f cdv A outer s H E hr tk po =>
    (ess_one (es_ret (EF.toG (b_tuple T.m_tuple (EF.toB (e_comp [("_law_at", 2)] [2] rfl nd (i_range1 T.m_range (EG.toB (v_eg 1))) (fun _ _ _ _ _ => (g_name nd 2)) (fun _ _ _ _ _ => (ets_one (et_cmp (opd_eq hr.units) (EF.toB (ef_bin opd_mod (EF.toB (ef_bin opd_add (EF.toB (ef_bin opd_div (EG.toB (v_eg 0)) (EF.toB ef_int))) (EG.toB (v_eg 2)))) (EF.toB ef_int))) (EF.toB ef_int)))) (fun _ _ _ _ _ => (EF.toG (ef_tup (ea_cons (v_eg 2) (ea_cons (eg_ix hr.u1 (EF.toB (c_str (y := [102, 116]))) (EG.toB (g_call (F__law_pick T) (by decide) hr takes_none5 (ea_cons (g_call (F__law_seed T) (by decide) hr takes_none5 (ea_cons (v_eg 0) (ea_cons (v_eg 2) ea_nil)) (al_cons (al_cons al_nil))) (ea_cons (EF.toG ef_int) ea_nil)) (al_cons (al_cons al_nil))))) ea_nil))))))))))))

theorem F__law_told_of (T : Tx K mg w ea) : Fn P w K mg base ea "_law_told_of" (mG K) 13 ["_law_way", "_law_book_here", "_law_thing"] l_told_of :=
  DefK.fn T.d__law_told_of ["_law_way", "_law_book_here", "_law_thing"] 12 (goodG K) (fun nd f cdv A outer s H E hr tk po =>
    (ess_cons (es_if (et_cmp opd_lt (EG.toB (v_eg 0)) (EF.toB ef_int))
  (ess_cons (es_if (et_cmp opd_lt (EG.toB (v_eg 0)) (EF.toB ef_int))
  (ess_one (es_ret (eg_if (et_cmp (opd_eq hr.units) (EG.toB (v_eg 0)) (EF.toB ef_int)) (g_call (F_course T) (by decide) hr tk (ea_cons (v_eg 1) (ea_cons (v_eg 2) ea_nil)) (al_cons (al_cons al_nil))) (eg_if (et_cmp (opd_eq hr.units) (EG.toB (v_eg 0)) (EF.toB ef_int)) (g_call (F_basins T) (by decide) hr tk (ea_cons (v_eg 1) ea_nil) (al_cons al_nil)) (g_call (F_longest_way T) (by decide) hr tk (ea_cons (v_eg 1) ea_nil) (al_cons al_nil))))))
  ess_nil)
  (ess_one (es_ret (eg_if (et_cmp (opd_eq hr.units) (EG.toB (v_eg 0)) (EF.toB ef_int)) (g_call (F_renumbered T) (by decide) hr tk (ea_cons (v_eg 1) (ea_cons (v_eg 2) ea_nil)) (al_cons (al_cons al_nil))) (g_call (F_side_by_side T) (by decide) hr tk (ea_cons (v_eg 1) (ea_cons (v_eg 2) ea_nil)) (al_cons (al_cons al_nil)))))))
  ess_nil)
  (ess_cons (es_if (et_cmp opd_lt (EG.toB (v_eg 0)) (EF.toB ef_int))
  (ess_cons (es_if (et_cmp (opd_eq hr.units) (EG.toB (v_eg 0)) (EF.toB ef_int))
  (ess_one (es_ret (g_call (F_turned_about T) (by decide) hr tk (ea_cons (v_eg 1) ea_nil) (al_cons al_nil))))
  ess_nil)
  (ess_one (es_ret (eg_if (et_cmp (opd_eq hr.units) (EG.toB (v_eg 0)) (EF.toB ef_int)) (g_call (F_put T) (by decide) hr tk (ea_cons (v_eg 1) (ea_cons (eg_ix hr.u1 (EG.toB (v_eg 2)) (EF.toB ef_int)) (ea_cons (eg_ix hr.u1 (EG.toB (v_eg 2)) (EF.toB ef_int)) ea_nil))) (al_cons (al_cons (al_cons al_nil)))) (g_call (F_always_alike T) (by decide) hr tk (ea_cons (v_eg 1) ea_nil) (al_cons al_nil))))))
  ess_nil)
  (ess_cons (es_if (et_cmp opd_lt (EG.toB (v_eg 0)) (EF.toB ef_int))
  (ess_one (es_ret (eg_if (et_cmp (opd_eq hr.units) (EG.toB (v_eg 0)) (EF.toB ef_int)) (g_call (F_always_against T) (by decide) hr tk (ea_cons (v_eg 1) ea_nil) (al_cons al_nil)) (g_call (F_sure T) (by decide) hr tk (ea_cons (v_eg 1) (ea_cons (v_eg 2) ea_nil)) (al_cons (al_cons al_nil))))))
  ess_nil)
  (ess_one (es_ret (eg_if (et_cmp (opd_eq hr.units) (EG.toB (v_eg 0)) (EF.toB ef_int)) (g_call (F_grounded_by T) (by decide) hr tk (ea_cons (v_eg 1) (ea_cons (v_eg 2) ea_nil)) (al_cons (al_cons al_nil))) (eg_if (et_cmp (opd_eq hr.units) (EG.toB (v_eg 0)) (EF.toB ef_int)) (g_call (F_fewest_known T) (by decide) hr tk (ea_cons (v_eg 1) ea_nil) (al_cons al_nil)) (EF.toG ef_bad)))))))))

theorem F__law_told_word (T : Tx K mg w ea) : Fn P w K mg base ea "_law_told_word" (mG K) 14 ["_law_way", "_law_book_here", "_law_thing"] l_told_word :=
  DefK.fn T.d__law_told_word ["_law_way", "_law_book_here", "_law_thing", "_law_word"] 13 (goodG K) (fun nd f cdv A outer s H E hr tk po =>
    (ess_cons (s_set nd 3 (EF.toG (c_str (y := []))))
  (ess_cons (es_try rfl rfl tk (fun W pn xe tk po => (ess_one (es_exp (g_call (F__law_told_of T) (by decide) hr tk (ea_cons (v_eg 0) (ea_cons (v_eg 1) (ea_cons (v_eg 2) ea_nil))) (al_cons (al_cons (al_cons al_nil)))))))
  (h_cons (cs := [.sayError, .badBook, .badTelling, .badSaying, .badOrder, .tooDeep]) .badBook T.e_BadBook (List.forall_mem_cons.2 ⟨T.x_SayError_BadBook, (List.forall_mem_cons.2 ⟨T.x_BadBook_BadBook, (List.forall_mem_cons.2 ⟨T.x_BadTelling_BadBook, (List.forall_mem_cons.2 ⟨T.x_BadSaying_BadBook, (List.forall_mem_cons.2 ⟨T.x_BadOrder_BadBook, (List.forall_mem_cons.2 ⟨T.x_TooDeep_BadBook, (fun _ h => nomatch h)⟩)⟩)⟩)⟩)⟩)⟩) (fun _ _ => (ess_one (s_set nd 3 (EF.toG (c_str (y := [98, 111, 111, 107])))))) (h_cons (cs := [.sayError, .badBook, .badTelling, .badSaying, .badOrder, .tooDeep]) .badTelling T.e_BadTelling (List.forall_mem_cons.2 ⟨T.x_SayError_BadTelling, (List.forall_mem_cons.2 ⟨T.x_BadBook_BadTelling, (List.forall_mem_cons.2 ⟨T.x_BadTelling_BadTelling, (List.forall_mem_cons.2 ⟨T.x_BadSaying_BadTelling, (List.forall_mem_cons.2 ⟨T.x_BadOrder_BadTelling, (List.forall_mem_cons.2 ⟨T.x_TooDeep_BadTelling, (fun _ h => nomatch h)⟩)⟩)⟩)⟩)⟩)⟩) (fun _ _ => (ess_one (s_set nd 3 (EF.toG (c_str (y := [116, 101, 108, 108, 105, 110, 103])))))) (h_cons (cs := [.sayError, .badBook, .badTelling, .badSaying, .badOrder, .tooDeep]) .badSaying T.e_BadSaying (List.forall_mem_cons.2 ⟨T.x_SayError_BadSaying, (List.forall_mem_cons.2 ⟨T.x_BadBook_BadSaying, (List.forall_mem_cons.2 ⟨T.x_BadTelling_BadSaying, (List.forall_mem_cons.2 ⟨T.x_BadSaying_BadSaying, (List.forall_mem_cons.2 ⟨T.x_BadOrder_BadSaying, (List.forall_mem_cons.2 ⟨T.x_TooDeep_BadSaying, (fun _ h => nomatch h)⟩)⟩)⟩)⟩)⟩)⟩) (fun _ _ => (ess_one (s_set nd 3 (EF.toG (c_str (y := [115, 97, 121, 105, 110, 103])))))) (h_cons (cs := [.sayError, .badBook, .badTelling, .badSaying, .badOrder, .tooDeep]) .badOrder T.e_BadOrder (List.forall_mem_cons.2 ⟨T.x_SayError_BadOrder, (List.forall_mem_cons.2 ⟨T.x_BadBook_BadOrder, (List.forall_mem_cons.2 ⟨T.x_BadTelling_BadOrder, (List.forall_mem_cons.2 ⟨T.x_BadSaying_BadOrder, (List.forall_mem_cons.2 ⟨T.x_BadOrder_BadOrder, (List.forall_mem_cons.2 ⟨T.x_TooDeep_BadOrder, (fun _ h => nomatch h)⟩)⟩)⟩)⟩)⟩)⟩) (fun _ _ => (ess_one (s_set nd 3 (EF.toG (c_str (y := [111, 114, 100, 101, 114])))))) (h_cons (cs := [.sayError, .badBook, .badTelling, .badSaying, .badOrder, .tooDeep]) .tooDeep T.e_TooDeep (List.forall_mem_cons.2 ⟨T.x_SayError_TooDeep, (List.forall_mem_cons.2 ⟨T.x_BadBook_TooDeep, (List.forall_mem_cons.2 ⟨T.x_BadTelling_TooDeep, (List.forall_mem_cons.2 ⟨T.x_BadSaying_TooDeep, (List.forall_mem_cons.2 ⟨T.x_BadOrder_TooDeep, (List.forall_mem_cons.2 ⟨T.x_TooDeep_TooDeep, (fun _ h => nomatch h)⟩)⟩)⟩)⟩)⟩)⟩) (fun _ _ => (ess_one (s_set nd 3 (EF.toG (c_str (y := [100, 101, 101, 112])))))) hd_nil))))))
  (ess_one (es_ret (v_eg 3))))))

theorem F_law (T : Tx K mg w ea) : Fn P w K mg base ea "law" (mG K) 15 ["_law_script"] law :=
  DefK.fn T.d_law ["_law_script", "_law_book_here", "_law_many", "_law_known_here", "_law_good", "_law_small", "_law_some", "_law_odds"] 14 (goodG K) (fun nd f cdv A outer s H E hr tk po =>
    (ess_cons (s_set nd 1 (g_call (F__law_book T) (by decide) hr tk (ea_cons (v_eg 0) (ea_cons (EF.toG ef_int) ea_nil)) (al_cons (al_cons al_nil))))
  (ess_cons (s_set nd 2 (EF.toG (b_len T.m_len (EG.toB (v_eg 1)))))
  (ess_cons (s_set nd 3 (g_call (F__law_known T) (by decide) hr tk (ea_cons (g_call (F__law_seed T) (by decide) hr tk (ea_cons (g_call (F__law_cell T) (by decide) hr tk (ea_cons (v_eg 0) (ea_cons (EF.toG ef_int) ea_nil)) (al_cons (al_cons al_nil))) (ea_cons (EF.toG ef_int) ea_nil)) (al_cons (al_cons al_nil))) (ea_cons (v_eg 2) ea_nil)) (al_cons (al_cons al_nil))))
  (ess_cons (es_if (et_cmp (opd_ne hr.units) (EG.toB (g_call (F_grounded_by T) (by decide) hr tk (ea_cons (v_eg 1) (ea_cons (v_eg 3) ea_nil)) (al_cons (al_cons al_nil)))) (EG.toB (g_call (F__law_grounded T) (by decide) hr tk (ea_cons (v_eg 1) (ea_cons (v_eg 3) ea_nil)) (al_cons (al_cons al_nil)))))
  (ess_one (es_ret (EF.toG ef_bl)))
  ess_nil)
  (ess_cons (s_own nd 4 (ef_lst ea_nil))
  (ess_cons (s_set nd 5 (g_call (F__law_cut T) (by decide) hr tk (ea_cons (v_eg 1) (ea_cons (EF.toG ef_int) ea_nil)) (al_cons (al_cons al_nil))))
  (ess_cons (es_for po rfl (si_any (g_call (F__law_all_known T) (by decide) hr tk (ea_cons (EF.toG (b_len T.m_len (EG.toB (v_eg 5)))) ea_nil) (al_cons al_nil))) (g_name nd 6) gSet_norm
  (ess_one (es_if (et_cmp (opd_notIn hr.u65) (EF.toB (c_str (y := [110]))) (EG.toB (g_call (F__law_grounded T) (by decide) hr tk (ea_cons (v_eg 5) (ea_cons (v_eg 6) ea_nil)) (al_cons (al_cons al_nil)))))
  (ess_one (s_app 4 (EF.toG (ef_tup (ea_cons (EF.toG (b_len T.m_len (EG.toB (v_eg 6)))) (ea_cons (v_eg 6) ea_nil))))))
  ess_nil)))
  (ess_cons (es_if (et_cmp (opd_ne hr.units) (EG.toB (g_call (F_fewest_known T) (by decide) hr tk (ea_cons (v_eg 5) ea_nil) (al_cons al_nil))) (EG.toB (eg_ix hr.u1 (EG.toB (g_minL rfl hr.units T.m_min (v_eb 4))) (EF.toB ef_int))))
  (ess_one (es_ret (EF.toG ef_bl)))
  ess_nil)
  (ess_cons (s_set nd 7 (EF.toG (ef_lst (ea_cons (EF.toG ef_non) (ea_cons (EF.toG (ef_tup (ea_cons (EF.toG (ef_tup (ea_cons (v_eg 2) (ea_cons (EF.toG (c_str (y := [116]))) ea_nil)))) ea_nil))) (ea_cons (EF.toG (ef_tup (ea_cons (EF.toG (ef_tup (ea_cons (EF.toG ef_int) (ea_cons (EF.toG (c_str (y := [110]))) ea_nil)))) ea_nil))) (ea_cons (EF.toG (ef_lst (ea_cons (EF.toG (ef_tup (ea_cons (EF.toG ef_int) (ea_cons (EF.toG (c_str (y := [116]))) ea_nil)))) ea_nil))) (ea_cons (EF.toG (ef_tup (ea_cons (EF.toG (ef_tup (ea_cons (EF.toG ef_int) (ea_cons (EF.toG (c_str (y := [116]))) ea_nil)))) (ea_cons (EF.toG (ef_tup (ea_cons (EF.toG ef_int) (ea_cons (EF.toG (c_str (y := [116]))) ea_nil)))) ea_nil)))) (ea_cons (EF.toG (ef_tup (ea_cons (EF.toG (ef_tup (ea_cons (EF.toG ef_int) ea_nil))) ea_nil))) (ea_cons (EF.toG (ef_tup (ea_cons (EF.toG (ef_tup (ea_cons (EF.toG ef_bl) (ea_cons (EF.toG (c_str (y := [116]))) ea_nil)))) ea_nil))) (ea_cons (EF.toG (ef_tup (ea_cons (EF.toG ef_int) (ea_cons (EF.toG (c_str (y := [116]))) ea_nil)))) ea_nil)))))))))))
  (ess_one (es_ret (EF.toG (ef_cmp (opd_eq hr.units) (EG.toB (g_call (F__law_told_word T) (by decide) hr tk (ea_cons (EF.toG ef_int) (ea_cons (v_eg 1) (ea_cons (eg_ix hr.u1 (EG.toB (v_eg 7)) (EF.toB (ef_bin opd_mod (EG.toB (g_call (F__law_cell T) (by decide) hr tk (ea_cons (v_eg 0) (ea_cons (EF.toG ef_int) ea_nil)) (al_cons (al_cons al_nil)))) (EF.toB ef_int)))) ea_nil))) (al_cons (al_cons (al_cons al_nil))))) (EF.toB (c_str (y := [111, 114, 100, 101, 114])))))))))))))))))
end
end SR

set_option linter.all false
set_option autoImplicit false
set_option Elab.async false
/-! SP: plain laws of the combinators. -/
namespace SR
@[simp] theorem line_val : line = 16777216 := rfl
@[simp] theorem deq_non_non : D.eq .non .non = true := by simp only [D.eq]
@[simp] theorem deq_non_bl (y : Bool) : D.eq .non (.bl y) = false := by simp only [D.eq]
@[simp] theorem deq_non_int (y : Int) : D.eq .non (.int y) = false := by simp only [D.eq]
@[simp] theorem deq_non_str (y : Txt) : D.eq .non (.str y) = false := by simp only [D.eq]
@[simp] theorem deq_non_tup (y : List D) : D.eq .non (.tup y) = false := by simp only [D.eq]
@[simp] theorem deq_non_lst (y : List D) : D.eq .non (.lst y) = false := by simp only [D.eq]
@[simp] theorem deq_bl_non (x : Bool) : D.eq (.bl x) .non = false := by simp only [D.eq]
@[simp] theorem deq_bl_bl (x : Bool) (y : Bool) : D.eq (.bl x) (.bl y) = (x == y) := by simp only [D.eq]
@[simp] theorem deq_bl_int (x : Bool) (y : Int) : D.eq (.bl x) (.int y) = ((if x then 1 else 0) == y) := by simp only [D.eq]
@[simp] theorem deq_bl_str (x : Bool) (y : Txt) : D.eq (.bl x) (.str y) = false := by simp only [D.eq]
@[simp] theorem deq_bl_tup (x : Bool) (y : List D) : D.eq (.bl x) (.tup y) = false := by simp only [D.eq]
@[simp] theorem deq_bl_lst (x : Bool) (y : List D) : D.eq (.bl x) (.lst y) = false := by simp only [D.eq]
@[simp] theorem deq_int_non (x : Int) : D.eq (.int x) .non = false := by simp only [D.eq]
@[simp] theorem deq_int_bl (x : Int) (y : Bool) : D.eq (.int x) (.bl y) = (x == (if y then 1 else 0)) := by simp only [D.eq]
@[simp] theorem deq_int_int (x : Int) (y : Int) : D.eq (.int x) (.int y) = (x == y) := by simp only [D.eq]
@[simp] theorem deq_int_str (x : Int) (y : Txt) : D.eq (.int x) (.str y) = false := by simp only [D.eq]
@[simp] theorem deq_int_tup (x : Int) (y : List D) : D.eq (.int x) (.tup y) = false := by simp only [D.eq]
@[simp] theorem deq_int_lst (x : Int) (y : List D) : D.eq (.int x) (.lst y) = false := by simp only [D.eq]
@[simp] theorem deq_str_non (x : Txt) : D.eq (.str x) .non = false := by simp only [D.eq]
@[simp] theorem deq_str_bl (x : Txt) (y : Bool) : D.eq (.str x) (.bl y) = false := by simp only [D.eq]
@[simp] theorem deq_str_int (x : Txt) (y : Int) : D.eq (.str x) (.int y) = false := by simp only [D.eq]
@[simp] theorem deq_str_str (x : Txt) (y : Txt) : D.eq (.str x) (.str y) = (x == y) := by simp only [D.eq]
@[simp] theorem deq_str_tup (x : Txt) (y : List D) : D.eq (.str x) (.tup y) = false := by simp only [D.eq]
@[simp] theorem deq_str_lst (x : Txt) (y : List D) : D.eq (.str x) (.lst y) = false := by simp only [D.eq]
@[simp] theorem deq_tup_non (x : List D) : D.eq (.tup x) .non = false := by simp only [D.eq]
@[simp] theorem deq_tup_bl (x : List D) (y : Bool) : D.eq (.tup x) (.bl y) = false := by simp only [D.eq]
@[simp] theorem deq_tup_int (x : List D) (y : Int) : D.eq (.tup x) (.int y) = false := by simp only [D.eq]
@[simp] theorem deq_tup_str (x : List D) (y : Txt) : D.eq (.tup x) (.str y) = false := by simp only [D.eq]
@[simp] theorem deq_tup_tup (x : List D) (y : List D) : D.eq (.tup x) (.tup y) = D.eqs x y := by simp only [D.eq]
@[simp] theorem deq_tup_lst (x : List D) (y : List D) : D.eq (.tup x) (.lst y) = false := by simp only [D.eq]
@[simp] theorem deq_lst_non (x : List D) : D.eq (.lst x) .non = false := by simp only [D.eq]
@[simp] theorem deq_lst_bl (x : List D) (y : Bool) : D.eq (.lst x) (.bl y) = false := by simp only [D.eq]
@[simp] theorem deq_lst_int (x : List D) (y : Int) : D.eq (.lst x) (.int y) = false := by simp only [D.eq]
@[simp] theorem deq_lst_str (x : List D) (y : Txt) : D.eq (.lst x) (.str y) = false := by simp only [D.eq]
@[simp] theorem deq_lst_tup (x : List D) (y : List D) : D.eq (.lst x) (.tup y) = false := by simp only [D.eq]
@[simp] theorem deq_lst_lst (x : List D) (y : List D) : D.eq (.lst x) (.lst y) = D.eqs x y := by simp only [D.eq]
@[simp] theorem deqs_nil : D.eqs [] [] = true := by simp only [D.eqs]
@[simp] theorem deqs_cons (x y : D) (xs ys : List D) : D.eqs (x :: xs) (y :: ys) = (D.eq x y && D.eqs xs ys) := by simp only [D.eqs]
@[simp] theorem deqs_nc (y : D) (ys : List D) : D.eqs [] (y :: ys) = false := by simp only [D.eqs]
@[simp] theorem deqs_cn (y : D) (ys : List D) : D.eqs (y :: ys) [] = false := by simp only [D.eqs]
/-- what passes, through Y -/
def compM {α : Type} (T : α → Res Bool) (Y : α → Res D) : List α → Res (List D)
  | [] => .ok []
  | x :: r => match T x with
    | .ok true => match Y x with
      | .ok y => (compM T Y r).bind fun ys => .ok (y :: ys)
      | .rs c => .rs c
      | .bad => .bad
    | .ok false => compM T Y r
    | .rs c => .rs c
    | .bad => .bad
@[simp] theorem compL_set (i : Nat) (t : TX) (e : EX) (ρ : Env) : ∀ xs : List D, compL (gSet i) t e xs ρ = compM (fun x => t (ρ.set i (.pl x))) (fun x => e (ρ.set i (.pl x))) xs
  | [] => rfl
  | x :: r => by
    unfold compL compM
    simp only [gSet]
    rw [compL_set i t e ρ r]
    all_goals rfl
@[simp] theorem compL_tup {α : Type} (A B : α → D) (i j : Nat) (t : TX) (e : EX) (ρ : Env) : ∀ l : List α, compL (gTup [i, j]) t e (l.map fun p => .tup [A p, B p]) ρ =
    compM (fun p => t ((ρ.set i (.pl (A p))).set j (.pl (B p)))) (fun p => e ((ρ.set i (.pl (A p))).set j (.pl (B p)))) l
  | [] => rfl
  | x :: r => by
    rw [List.map_cons]
    unfold compL compM
    have : gTup [i, j] (.tup [A x, B x]) ρ = .ok ((ρ.set i (.pl (A x))).set j (.pl (B x))) := rfl
    rw [this]
    simp only
    rw [compL_tup A B i j t e ρ r]
    all_goals rfl
@[simp] theorem compM_nil {α : Type} (T : α → Res Bool) (Y : α → Res D) : compM T Y [] = .ok [] := rfl
@[simp] theorem compM_map {α β : Type} (F : α → β) (T : β → Res Bool) (Y : β → Res D) : ∀ l : List α, compM T Y (l.map F) = compM (fun a => T (F a)) (fun a => Y (F a)) l
  | [] => rfl
  | x :: r => by
    rw [List.map_cons]
    unfold compM
    rw [compM_map F T Y r]
theorem compM_ok {α : Type} {T : α → Res Bool} {Y : α → Res D} (T' : α → Bool) (Y' : α → D) : ∀ {l : List α}, (∀ a ∈ l, T a = .ok (T' a)) → (∀ a ∈ l, T' a = true → Y a = .ok (Y' a)) → compM T Y l = .ok ((l.filter T').map Y')
  | [], _, _ => rfl
  | x :: r, h1, h2 => by
    unfold compM
    rw [h1 x List.mem_cons_self]
    have ih := compM_ok T' Y' (l := r) (fun a ha => h1 a (List.mem_cons_of_mem _ ha)) (fun a ha => h2 a (List.mem_cons_of_mem _ ha))
    cases hx : T' x with
    | true =>
      simp only
      rw [h2 x List.mem_cons_self hx, ih, List.filter_cons_of_pos hx]
      rfl
    | false =>
      simp only
      rw [ih, List.filter_cons_of_neg (by rw [hx]; exact Bool.false_ne_true)]
theorem compM_congr {α : Type} {T T' : α → Res Bool} {Y Y' : α → Res D} : ∀ {l : List α}, (∀ a ∈ l, T a = T' a) → (∀ a ∈ l, Y a = Y' a) → compM T Y l = compM T' Y' l
  | [], _, _ => rfl
  | x :: r, h1, h2 => by
    unfold compM
    rw [h1 x List.mem_cons_self, h2 x List.mem_cons_self, compM_congr (fun a h => h1 a (List.mem_cons_of_mem _ h)) fun a h => h2 a (List.mem_cons_of_mem _ h)]
theorem compM_all {α : Type} {T : α → Res Bool} {Y : α → Res D} (Y' : α → D) {l : List α} (h1 : ∀ a ∈ l, T a = .ok true) (h2 : ∀ a ∈ l, Y a = .ok (Y' a)) : compM T Y l = .ok (l.map Y') := by
  rw [compM_ok (fun _ => true) Y' h1 fun a ha _ => h2 a ha, List.filter_eq_self.mpr (fun _ _ => rfl)]
@[simp] theorem zipD_map {α β : Type} (F : α → D) (G : β → D) : ∀ (l : List α) (m : List β), zipD (l.map F) (m.map G) = (l.zip m).map fun p => .tup [F p.1, G p.2]
  | [], _ => by simp [zipD]
  | _ :: _, [] => by simp [zipD]
  | x :: l, y :: m => by simp [zipD, zipD_map F G l m]
@[simp] theorem zipD_tail {α : Type} (F : α → D) (l : List α) : zipD (l.map F) (l.map F).tail = (l.zip l.tail).map fun p => .tup [F p.1, F p.2] := by
  rw [← List.map_tail, zipD_map]
theorem compM_none {α : Type} {T : α → Res Bool} {Y : α → Res D} {l : List α} (h1 : ∀ a ∈ l, T a = .ok false) : compM T Y l = .ok [] := by
  rw [compM_ok (fun _ => false) (fun _ => .non) h1 fun a ha h => by cases h]
  simp
/-- whether one passes -/
theorem compM_any {α : Type} {T : α → Res Bool} {Y : α → Res D} (T' : α → Bool) (Y' : α → D) {l : List α} (h1 : ∀ a ∈ l, T a = .ok (T' a)) (h2 : ∀ a ∈ l, T' a = true → Y a = .ok (Y' a)) : ∃ ys, compM T Y l = .ok ys ∧ ys.isEmpty = !l.any T' := by
  refine ⟨_, compM_ok T' Y' h1 h2, ?_⟩
  induction l with
  | nil => rfl
  | cons x r ih =>
    have ih := ih (fun a ha => h1 a (List.mem_cons_of_mem _ ha)) (fun a ha => h2 a (List.mem_cons_of_mem _ ha))
    rw [List.any_cons]
    cases hx : T' x with
    | true => rw [List.filter_cons_of_pos hx]; rfl
    | false => rw [List.filter_cons_of_neg (by rw [hx]; exact Bool.false_ne_true), ih]; rfl
theorem cut_from {α : Type} (xs : List α) (k : Nat) : cut xs (some (k : Int)) none = xs.drop k := by
  unfold cut sIx
  simp only
  rw [if_neg (by omega), Int.toNat_natCast]
  by_cases h : k ≤ xs.length
  · rw [Nat.min_eq_left h]
    exact List.take_of_length_le (by rw [List.length_drop]; omega)
  · rw [Nat.min_eq_right (by omega), List.drop_of_length_le (by omega), List.drop_of_length_le (by omega), List.take_nil]
@[simp] theorem cut_1 {α : Type} (xs : List α) : cut xs (some 1) none = xs.drop 1 := cut_from xs 1
theorem cut_to {α : Type} (xs : List α) (k : Nat) : cut xs none (some (k : Int)) = xs.take k := by
  unfold cut sIx
  simp only
  rw [if_neg (by omega), Int.toNat_natCast, List.drop_zero, Nat.sub_zero]
  by_cases h : k ≤ xs.length
  · rw [Nat.min_eq_left h]
  · rw [Nat.min_eq_right (by omega), List.take_of_length_le (Nat.le_refl _), List.take_of_length_le (by omega)]
/-- a loop that goes to its end -/
theorem forL_all {f : D → Env → Out} {α : Type} (F : α → D) (I : Nat → Env → Prop) : ∀ (l : List α) (k : Nat) (ρ : Env), I k ρ → (∀ i x ρ, l[i]? = some x → I (k + i) ρ → ∃ ρ', (f (F x) ρ = .nx ρ' ∨ f (F x) ρ = .ct ρ') ∧ I (k + i + 1) ρ') →
    ∃ ρ', forL f (l.map F) ρ = .nx ρ' ∧ I (k + l.length) ρ'
  | [], k, ρ, h, _ => ⟨ρ, rfl, h⟩
  | x :: l, k, ρ, h, st => by
    obtain ⟨ρ1, h1, h2⟩ := st 0 x ρ rfl h
    obtain ⟨ρ2, h3, h4⟩ := forL_all F I l (k + 1) ρ1 h2 fun i y ρ hy hi => by
      have := st (i + 1) y ρ (by simpa using hy) (by rw [show k + (i + 1) = k + 1 + i by omega]; exact hi)
      rw [show k + (i + 1) + 1 = k + 1 + i + 1 by omega] at this
      exact this
    refine ⟨ρ2, ?_, by rw [List.length_cons, show k + (l.length + 1) = k + 1 + l.length by omega]; exact h4⟩
    rw [List.map_cons]
    unfold forL
    rcases h1 with h1 | h1 <;> rw [h1] <;> exact h3
end SR

set_option linter.all false
set_option autoImplicit false
set_option Elab.async false
set_option maxRecDepth 100000
/-! Th1: sayings, tellings, worths; the program's functions on them. -/
namespace SR
inductive Wo where
  | f | n | t
  deriving DecidableEq, Inhabited
def Wo.c : Wo → Nat
  | .f => 102 | .n => 110 | .t => 116
@[simp] theorem c_t : Wo.t.c = 116 := rfl
@[simp] theorem c_f : Wo.f.c = 102 := rfl
@[simp] theorem c_n : Wo.n.c = 110 := rfl
abbrev Tel := List Wo
@[simp] def w1 (w : Wo) : D := .str [w.c]
def tx (τ : Tel) : D := .str (τ.map Wo.c)
inductive Sy where
  | yes | no | says (i : Nat) | neg (a : Sy) | and (a b : Sy) | or (a b : Sy) | many (lo hi : Nat) (row : List Nat)
  deriving Inhabited
@[simp] def nums (l : List Nat) : List D := l.map fun i => .int (i : Nat)
@[simp] def Sy.d : Sy → D
  | .yes => .tup [.str [121, 101, 115]]
  | .no => .tup [.str [110, 111]]
  | .says i => .tup [.str [115, 97, 121, 115], .int i]
  | .neg a => .tup [.str [110, 111, 116], a.d]
  | .and a b => .tup [.str [97, 110, 100], a.d, b.d]
  | .or a b => .tup [.str [111, 114], a.d, b.d]
  | .many lo hi row => .tup [.str [109, 97, 110, 121], .int lo, .int hi, .tup (nums row)]
/-- a saying in a book of m, at most k deep -/
def Sy.ok (m : Nat) : Nat → Sy → Prop
  | 0, _ => False
  | _ + 1, .yes => True
  | _ + 1, .no => True
  | _ + 1, .says i => i < m
  | k + 1, .neg a => a.ok m k
  | k + 1, .and a b => a.ok m k ∧ b.ok m k
  | k + 1, .or a b => a.ok m k ∧ b.ok m k
  | _ + 1, .many lo hi row => lo ≤ hi ∧ hi ≤ m ∧ (∀ r ∈ row, r < m) ∧ row.Pairwise (· < ·)
def Wo.not : Wo → Wo
  | .f => .t | .n => .n | .t => .f
def ofMany (lo hi : Nat) (ws : List Wo) : Wo :=
  if lo ≤ ws.count .t ∧ ws.count .t + ws.count .n ≤ hi then .t
  else if ws.count .t + ws.count .n < lo ∨ hi < ws.count .t then .f else .n
def Sy.w (τ : Tel) : Sy → Wo
  | .yes => .t
  | .no => .f
  | .says i => τ.getD i .n
  | .neg a => (a.w τ).not
  | .and a b => ofMany 2 2 [a.w τ, b.w τ]
  | .or a b => ofMany 1 2 [a.w τ, b.w τ]
  | .many lo hi row => ofMany lo hi (row.map fun r => τ.getD r .n)
theorem Wo.c_inj {a b : Wo} (h : a.c = b.c) : a = b := by cases a <;> cases b <;> first | rfl | cases h
theorem count_c (w : Wo) (c : Nat) (h : w.c = c) : ∀ ws : List Wo, ws.countP ((fun x => D.eq x (.str [c])) ∘ fun w => D.str [w.c]) = ws.count w
  | [] => rfl
  | x :: ws => by
    rw [List.countP_cons, List.count_cons, count_c w c h ws]
    congr 1
    subst h
    cases x <;> cases w <;> rfl
theorem flat_ws : ∀ ws : List Wo, (ws.map fun w => D.str [w.c]).all D.flat = true
  | [] => rfl
  | x :: ws => by rw [List.map_cons, List.all_cons, flat_ws ws]; rfl
theorem turned_eq (w : Wo) : p_turned [.str [w.c]] = .ok (.str [w.not.c]) := by cases w <;> rfl
theorem of_many_eq (lo hi : Nat) (ws : List Wo) : p_of_many [.int lo, .int hi, .lst (ws.map fun w => .str [w.c])] = .ok (.str [(ofMany lo hi ws).c]) := by
  have ht := count_c .t 116 rfl ws
  have hn := count_c .n 110 rfl ws
  have hf := flat_ws ws
  unfold ofMany
  generalize ws.count .t = a at *
  generalize ws.count .n = b at *
  by_cases h1 : lo ≤ a <;> by_cases h2 : a + b ≤ hi <;> by_cases h3 : a + b < lo <;> by_cases h4 : hi < a <;>
    simp [p_of_many, ht, hn, hf, h1, h2, h3, h4, ← Int.natCast_add]
end SR

set_option linter.all false
set_option autoImplicit false
set_option Elab.async false
set_option maxRecDepth 100000
namespace SR
theorem rise_len (m : Nat) : ∀ (row : List Nat) (lo : Nat), (∀ r ∈ row, lo ≤ r ∧ r < m) → row.Pairwise (· < ·) → row.length ≤ m - lo
  | [], _, _, _ => Nat.zero_le _
  | x :: r, lo, h, p => by
    obtain ⟨p1, p2⟩ := List.pairwise_cons.mp p
    have hx := h x List.mem_cons_self
    have := rise_len m r (x + 1) (fun y hy => ⟨p1 y hy, (h y (List.mem_cons_of_mem _ hy)).2⟩) p2
    rw [List.length_cons]
    omega
theorem worth_of_eq (m : Nat) (τ : Tel) (hτ : τ.length = m) (hm : m ≤ 100) : ∀ (k n : Nat) (s : Sy), s.ok m k → k ≤ n → p_worth_of n [tx τ, s.d] = .ok (w1 (s.w τ))
  | 0, _, _, h, _ => h.elim
  | k + 1, 0, _, _, h => absurd h (by omega)
  | k + 1, n + 1, s, h, hk => by
    have hl : τ.length ≤ 16777216 := by omega
    cases s with
    | yes => simp [p_worth_of, tx, Sy.w]
    | no => simp [p_worth_of, tx, Sy.w]
    | says i =>
      have hi : i < τ.length := by rw [hτ]; exact h
      simp [p_worth_of, tx, Sy.w, hl, List.getElem?_eq_getElem hi]
    | neg a =>
      have := worth_of_eq m τ hτ hm k n a h (by omega)
      simp [p_worth_of, Sy.w, this, turned_eq]
    | and a b =>
      have h1 := worth_of_eq m τ hτ hm k n a h.1 (by omega)
      have h2 := worth_of_eq m τ hτ hm k n b h.2 (by omega)
      have h3 := of_many_eq 2 2 [a.w τ, b.w τ]
      simp at h3
      simp [p_worth_of, Sy.w, h1, h2, h3]
    | or a b =>
      have h1 := worth_of_eq m τ hτ hm k n a h.1 (by omega)
      have h2 := worth_of_eq m τ hτ hm k n b h.2 (by omega)
      have h3 := of_many_eq 1 2 [a.w τ, b.w τ]
      simp at h3
      simp [p_worth_of, Sy.w, h1, h2, h3]
    | many lo hi row =>
      have h3 := of_many_eq lo hi (row.map fun r => τ.getD r .n)
      simp [p_worth_of, Sy.w, tx, hl]
      obtain ⟨h1, h2, h4, h5⟩ := h
      have hr : row.length ≤ 16777216 := by
        have := rise_len m row 0 (fun r hr => ⟨Nat.zero_le _, h4 r hr⟩) h5
        omega
      rw [compM_all (fun a => w1 (τ.getD a .n)) (fun _ _ => rfl) fun a ha => by
        have ha' : a < τ.length := by rw [hτ]; exact h4 a ha
        simp [List.getElem?_eq_getElem ha', List.getD_eq_getElem?_getD]]
      simp [Function.comp_def] at h3
      simp [hr, h3]
/-! ### what is a saying, a book, a telling -/
theorem within_eq (x a b : Int) : p_is_within [.int x, .int a, .int b] = .ok (.bl (decide (a ≤ x) && decide (x ≤ b))) := by
  by_cases h1 : a ≤ x <;> simp [p_is_within, h1]
theorem row_eq (m : Nat) (row : List Nat) (h : ∀ r ∈ row, r < m) (p : row.Pairwise (· < ·)) (hm : m ≤ 100) : p_is_row [.int m, .tup (nums row)] = .ok (.bl true) := by
  have hr : row.length ≤ 16777216 := by
    have := rise_len m row 0 (fun r hr => ⟨Nat.zero_le _, h r hr⟩) p
    omega
  have hz : ∀ q ∈ row.zip row.tail, q.1 < q.2 := by
    intro q hq
    rw [← List.drop_one] at hq
    obtain ⟨i, hi⟩ := List.getElem?_of_mem hq
    rw [List.getElem?_zip_eq_some, List.getElem?_drop] at hi
    obtain ⟨h1, h2⟩ := List.getElem?_eq_some_iff.mp hi.1
    obtain ⟨h3, h4⟩ := List.getElem?_eq_some_iff.mp hi.2
    rw [← h2, ← h4]
    exact List.pairwise_iff_getElem.mp p _ _ _ _ (by omega)
  have hzl : (row.zip row.tail).length ≤ 16777216 := by rw [List.length_zip]; omega
  simp [p_is_row]
  rw [compM_none fun a ha => by
    have := h a ha
    rw [within_eq]
    simp
    omega]
  simp [hr]
  rw [compM_none fun a ha => by
    have := hz a ha
    simp
    omega]
  simp at hzl
  simp [hzl]
end SR

set_option linter.all false
set_option autoImplicit false
set_option Elab.async false
set_option maxRecDepth 100000
/-! Th3: what is a saying, a book, a telling; the next telling. -/
namespace SR
theorem saying_eq (m : Nat) (hm : m ≤ 100) : ∀ (k n : Nat) (s : Sy), s.ok m k → k ≤ n → p_is_saying n [.int m, s.d, .int k] = .ok (.bl true)
  | 0, _, _, h, _ => h.elim
  | k + 1, 0, _, _, h => absurd h (by omega)
  | k + 1, n + 1, s, h, hk => by
    have hk0 : ¬ ((k : Int) + 1 = 0) := by omega
    cases s with
    | yes => simp [p_is_saying, hk0, t_SIZES, lookT]
    | no => simp [p_is_saying, hk0, t_SIZES, lookT]
    | says i =>
      have hi : i < m := h
      simp [p_is_saying, hk0, t_SIZES, lookT, within_eq]
      omega
    | neg a =>
      have := saying_eq m hm k n a h (by omega)
      simp [p_is_saying, hk0, t_SIZES, lookT, this, compM]
    | and a b =>
      have h1 := saying_eq m hm k n a h.1 (by omega)
      have h2 := saying_eq m hm k n b h.2 (by omega)
      simp [p_is_saying, hk0, t_SIZES, lookT, h1, h2, compM]
    | or a b =>
      have h1 := saying_eq m hm k n a h.1 (by omega)
      have h2 := saying_eq m hm k n b h.2 (by omega)
      simp [p_is_saying, hk0, t_SIZES, lookT, h1, h2, compM]
    | many lo hi row =>
      obtain ⟨h1, h2, h4, h5⟩ := h
      have := row_eq m row h4 h5 hm
      simp at this
      have q1 : lo ≤ m := by omega
      simp [p_is_saying, hk0, t_SIZES, lookT, within_eq, this, q1, h1, h2]
/-- a book -/
abbrev Bk := List Sy
def bk (b : Bk) : D := .tup (b.map Sy.d)
structure Bk.ok (b : Bk) : Prop where
  pos : 1 ≤ b.length
  six : b.length ≤ 6
  all : ∀ s ∈ b, s.ok b.length 4
theorem book_eq (b : Bk) (h : b.ok) : p_is_book [bk b] = .ok (.bl true) := by
  have h1 := h.pos
  have h2 := h.six
  have q : (1 : Int) ≤ b.length := by omega
  have q2 : (b.length : Int) ≤ 6 := by omega
  have q3 : b.length ≤ 16777216 := by omega
  simp [p_is_book, bk, q, q2]
  rw [compM_none fun a ha => by
    have := saying_eq b.length (by omega) 4 6 a (h.all a ha) (by omega)
    simp at this
    simp [this]]
  simp [q3]
theorem look_eq (b : Bk) (h : b.ok) : p_look [bk b] = .ok .non := by
  simp [p_look, book_eq b h]
theorem mem_fnt (w : Wo) : w.c ∈ ([102, 110, 116] : List Nat) := by cases w <;> decide
theorem telling_eq (b : Bk) (h : b.ok) (τ : Tel) (hτ : τ.length = b.length) : p_is_telling [bk b, tx τ] = .ok (.bl true) := by
  have h2 := h.six
  have q3 : τ.length ≤ 16777216 := by omega
  have q4 : b.length ≤ 16777216 := by omega
  simp [p_is_telling, bk, tx, q3, q4, hτ]
  rw [compM_none fun a ha => by
    have := mem_fnt a
    simp at this
    simp
    intro h1 h2
    omega]
  simp
theorem look_telling_eq (b : Bk) (h : b.ok) (τ : Tel) (hτ : τ.length = b.length) : p_look_telling [bk b, tx τ] = .ok .non := by
  simp [p_look_telling, telling_eq b h τ hτ]
def Bk.next (b : Bk) (τ : Tel) : Tel := b.map fun s => s.w τ
theorem txts_ws : ∀ ws : List Wo, txts (ws.map fun w => D.str [w.c]) = some (ws.map fun w => [w.c])
  | [] => rfl
  | w :: ws => by
    rw [List.map_cons]
    unfold txts
    rw [txts_ws ws]
    rfl
theorem joinT_nil : ∀ l : List Txt, joinT [] l = l.flatten
  | [] => rfl
  | [x] => by simp [joinT]
  | x :: y :: r => by
    unfold joinT
    rw [joinT_nil (y :: r)]
    simp
theorem flat_one {α : Type} (c : α → Nat) : ∀ l : List α, (l.map fun w => [c w]).flatten = l.map c
  | [] => rfl
  | x :: l => by rw [List.map_cons, List.flatten_cons, flat_one c l]; rfl
theorem lens_one {α : Type} (c : α → Nat) : ∀ l : List α, lens (l.map fun w => [c w]) = l.length
  | [] => rfl
  | x :: l => by
    have := lens_one c l
    unfold lens at this ⊢
    rw [List.map_cons, List.map_cons, List.sum_cons, this, List.length_cons]
    show 1 + l.length = l.length + 1
    omega
/-- "".join of signs -/
theorem join_ws (ws : List Wo) (h : ws.length ≤ 1000) : dJoin (.str []) (.lst (ws.map fun w => .str [w.c])) = .ok (.str (ws.map Wo.c)) := by
  unfold dJoin
  simp only [txts_ws]
  rw [lens_one, joinT_nil, flat_one]
  simp
  omega
theorem next_of_eq (b : Bk) (h : b.ok) (τ : Tel) (hτ : τ.length = b.length) : p_next_of [bk b, tx τ] = .ok (tx (b.next τ)) := by
  have h2 := h.six
  have q4 : b.length ≤ 16777216 := by omega
  have hj := join_ws (b.map fun s => s.w τ) (by simp; omega)
  simp [Function.comp_def] at hj
  simp [p_next_of, bk]
  rw [compM_all (fun s => w1 (Sy.w τ s)) (fun _ _ => rfl) fun a ha => by
    have := worth_of_eq b.length τ hτ (by omega) 4 6 a (h.all a ha) (by omega)
    simp [this]]
  simp [q4, Bk.next, tx, hj, Function.comp_def]
theorem worth_eq (b : Bk) (h : b.ok) (τ : Tel) (hτ : τ.length = b.length) (s : Sy) (hs : s.ok b.length 4) : p_worth [bk b, tx τ, s.d] = .ok (w1 (s.w τ)) := by
  have h2 := h.six
  have q4 : b.length ≤ 16777216 := by omega
  have h3 := worth_of_eq b.length τ hτ (by omega) 4 6 s hs (by omega)
  have h4 := saying_eq b.length (by omega) 4 6 s hs (by omega)
  have h5 := look_eq b h
  have h6 := look_telling_eq b h τ hτ
  unfold bk at *
  simp at h3 h4
  simp [p_worth, h5, h6, q4, h4, h3]
theorem next_telling_eq (b : Bk) (h : b.ok) (τ : Tel) (hτ : τ.length = b.length) : p_next_telling [bk b, tx τ] = .ok (tx (b.next τ)) := by
  simp [p_next_telling, look_eq b h, look_telling_eq b h τ hτ, next_of_eq b h τ hτ]
theorem tx_inj {σ τ : Tel} : (σ.map Wo.c = τ.map Wo.c) ↔ σ = τ := ⟨fun h => List.map_inj_right (fun _ _ e => Wo.c_inj e) |>.mp h, fun h => by rw [h]⟩
theorem is_steady_eq (b : Bk) (h : b.ok) (τ : Tel) (hτ : τ.length = b.length) : p_is_steady [bk b, tx τ] = .ok (.bl (decide (b.next τ = τ))) := by
  have h1 := next_of_eq b h τ hτ
  have h2 := telling_eq b h τ hτ
  have h3 := look_eq b h
  unfold tx at *
  simp [p_is_steady, h1, h2, h3]
  rw [Bool.eq_iff_iff, beq_iff_eq, decide_eq_true_eq]
  exact tx_inj
end SR

set_option linter.all false
set_option autoImplicit false
set_option Elab.async false
set_option maxRecDepth 100000
/-! Th4: what lies below, rounds. -/
namespace SR
def Wo.le (a b : Wo) : Bool := decide (a = .n) || decide (a = b)
/-- σ says no more than τ -/
def bel (σ τ : Tel) : Bool := (σ.zip τ).all fun p => p.1.le p.2
theorem Wo.le_refl (a : Wo) : a.le a = true := by cases a <;> rfl
theorem Wo.le_trans {a b c : Wo} (h : a.le b = true) (k : b.le c = true) : a.le c = true := by
  revert h k
  cases a <;> cases b <;> cases c <;> decide
theorem Wo.le_n {a : Wo} (h : a.le .n = true) : a = .n := by cases a <;> first | rfl | cases h
theorem bel_get {σ τ : Tel} (h : bel σ τ = true) (hl : σ.length = τ.length) (i : Nat) : (σ.getD i .n).le (τ.getD i .n) = true := by
  by_cases hi : i < σ.length
  · have hz : (σ.zip τ)[i]? = some (σ[i], τ[i]'(by omega)) := by
      rw [List.getElem?_zip_eq_some]
      exact ⟨List.getElem?_eq_getElem hi, List.getElem?_eq_getElem (by omega)⟩
    have := List.all_eq_true.mp h _ (List.mem_of_getElem? hz)
    simpa [List.getD_eq_getElem?_getD, List.getElem?_eq_getElem hi, List.getElem?_eq_getElem (show i < τ.length by omega)] using this
  · simp [List.getD_eq_getElem?_getD, List.getElem?_eq_none (show σ.length ≤ i by omega), List.getElem?_eq_none (show τ.length ≤ i by omega), Wo.le]
theorem bel_of {σ τ : Tel} (hl : σ.length = τ.length) (h : ∀ i, (σ.getD i .n).le (τ.getD i .n) = true) : bel σ τ = true := by
  unfold bel
  rw [List.all_eq_true]
  intro p hp
  obtain ⟨i, hi⟩ := List.getElem?_of_mem hp
  rw [List.getElem?_zip_eq_some] at hi
  have := h i
  simpa [List.getD_eq_getElem?_getD, hi.1, hi.2] using this
theorem bel_refl (σ : Tel) : bel σ σ = true := bel_of rfl fun i => Wo.le_refl _
theorem bel_trans {σ τ υ : Tel} (h1 : σ.length = τ.length) (h2 : τ.length = υ.length) (a : bel σ τ = true) (b : bel τ υ = true) : bel σ υ = true := bel_of (h1.trans h2) fun i => Wo.le_trans (bel_get a h1 i) (bel_get b h2 i)
/-- counts of a row that says more -/
theorem count_le : ∀ {ws vs : List Wo}, ws.length = vs.length → (∀ p ∈ ws.zip vs, p.1.le p.2 = true) → ws.count .t ≤ vs.count .t ∧ vs.count .t + vs.count .n ≤ ws.count .t + ws.count .n ∧ vs.count .n ≤ ws.count .n
  | [], [], _, _ => by simp
  | [], _ :: _, h, _ => by simp at h
  | _ :: _, [], h, _ => by simp at h
  | w :: ws, v :: vs, hl, h => by
    have ih := count_le (ws := ws) (vs := vs) (by simpa using hl) fun p hp => h p (by rw [List.zip_cons_cons]; exact List.mem_cons_of_mem _ hp)
    have h0 := h (w, v) (by rw [List.zip_cons_cons]; exact List.mem_cons_self)
    cases w <;> cases v <;> simp [Wo.le] at h0 <;> simp [List.count_cons] <;> omega
theorem ofMany_mono (lo hi : Nat) {ws vs : List Wo} (hl : ws.length = vs.length) (h : ∀ p ∈ ws.zip vs, p.1.le p.2 = true) : (ofMany lo hi ws).le (ofMany lo hi vs) = true := by
  obtain ⟨h1, h2, _⟩ := count_le hl h
  unfold ofMany
  by_cases a : lo ≤ ws.count .t ∧ ws.count .t + ws.count .n ≤ hi
  · rw [if_pos a, if_pos (by omega)]; rfl
  · rw [if_neg a]
    by_cases b : ws.count .t + ws.count .n < lo ∨ hi < ws.count .t
    · rw [if_pos b, if_neg (by omega), if_pos (by omega)]; rfl
    · rw [if_neg b]; rfl
theorem Wo.not_mono {a b : Wo} (h : a.le b = true) : a.not.le b.not = true := by cases a <;> cases b <;> first | rfl | cases h
theorem w_mono {σ τ : Tel} (h : bel σ τ = true) (hl : σ.length = τ.length) : ∀ s : Sy, (s.w σ).le (s.w τ) = true
  | .yes => rfl
  | .no => rfl
  | .says i => bel_get h hl i
  | .neg a => Wo.not_mono (w_mono h hl a)
  | .and a b => ofMany_mono 2 2 rfl fun p hp => by
    simp at hp
    rcases hp with rfl | rfl
    · exact w_mono h hl a
    · exact w_mono h hl b
  | .or a b => ofMany_mono 1 2 rfl fun p hp => by
    simp at hp
    rcases hp with rfl | rfl
    · exact w_mono h hl a
    · exact w_mono h hl b
  | .many lo hi row => ofMany_mono lo hi (by simp) fun p hp => by
    obtain ⟨i, hi⟩ := List.getElem?_of_mem hp
    rw [List.getElem?_zip_eq_some, List.getElem?_map, List.getElem?_map] at hi
    obtain ⟨r, hr, e1⟩ := Option.map_eq_some_iff.mp hi.1
    obtain ⟨r', hr', e2⟩ := Option.map_eq_some_iff.mp hi.2
    rw [hr] at hr'
    cases hr'
    rw [← e1, ← e2]
    exact bel_get h hl r
theorem next_len (b : Bk) (τ : Tel) : (b.next τ).length = b.length := by unfold Bk.next; rw [List.length_map]
theorem next_mono (b : Bk) {σ τ : Tel} (h : bel σ τ = true) (hl : σ.length = τ.length) : bel (b.next σ) (b.next τ) = true := by
  unfold bel Bk.next
  rw [List.all_eq_true]
  intro p hp
  obtain ⟨i, hi⟩ := List.getElem?_of_mem hp
  rw [List.getElem?_zip_eq_some, List.getElem?_map, List.getElem?_map] at hi
  obtain ⟨r, hr, e1⟩ := Option.map_eq_some_iff.mp hi.1
  obtain ⟨r', hr', e2⟩ := Option.map_eq_some_iff.mp hi.2
  rw [hr] at hr'
  cases hr'
  rw [← e1, ← e2]
  exact w_mono h hl r
/-- one that grows, and is not steady, has fewer that are neither behind it -/
theorem count_lt : ∀ {ws vs : List Wo}, ws.length = vs.length → (∀ p ∈ ws.zip vs, p.1.le p.2 = true) → vs ≠ ws → vs.count .n < ws.count .n
  | [], [], _, _, h => absurd rfl h
  | [], _ :: _, h, _, _ => by simp at h
  | _ :: _, [], h, _, _ => by simp at h
  | w :: ws, v :: vs, hl, h, hn => by
    have hl' : ws.length = vs.length := by simpa using hl
    have h' : ∀ p ∈ ws.zip vs, p.1.le p.2 = true := fun p hp => h p (by rw [List.zip_cons_cons]; exact List.mem_cons_of_mem _ hp)
    have h0 := h (w, v) (by rw [List.zip_cons_cons]; exact List.mem_cons_self)
    have hc := (count_le hl' h').2.2
    by_cases e : v = w
    · subst e
      have := count_lt hl' h' fun z => hn (by rw [z])
      rw [List.count_cons, List.count_cons]
      omega
    · cases w <;> cases v <;> simp [Wo.le] at h0 e <;> simp [List.count_cons] <;> omega
/-- the rounds from a telling, at most k more -/
def rnds (b : Bk) : Nat → Tel → List Tel
  | 0, τ => [τ]
  | k + 1, τ => if b.next τ = τ then [τ] else τ :: rnds b k (b.next τ)
theorem rnds_ne (b : Bk) : ∀ (k : Nat) (τ : Tel), rnds b k τ ≠ []
  | 0, _ => by simp [rnds]
  | k + 1, τ => by unfold rnds; split <;> simp
theorem below_eq (σ τ : Tel) (hs : σ.length ≤ 1000) : p_lies_below [tx σ, tx τ] = .ok (.bl (bel σ τ)) := by
  have hz : (σ.zip τ).length ≤ 16777216 := by rw [List.length_zip]; omega
  simp at hz
  simp [p_lies_below, tx]
  obtain ⟨ys, e1, e2⟩ := compM_any (T := fun p : Wo × Wo => Res.ok (!110 == p.1.c && !p.2.c == p.1.c)) (Y := fun _ => Res.ok (D.int 1)) (fun p : Wo × Wo => !p.1.le p.2) (fun _ => D.int 1) (l := σ.zip τ)
    (fun p hp => by cases p with | mk x y => cases x <;> cases y <;> rfl) (fun _ _ _ => rfl)
  have eb : bel σ τ = ys.isEmpty := by
    rw [e2]
    unfold bel
    rw [List.all_eq_not_any_not]
  rw [eb]
  simp [e1, hz]
theorem is_below_eq (b : Bk) (h : b.ok) (σ τ : Tel) (hs : σ.length = b.length) (ht : τ.length = b.length) : p_is_below [bk b, tx σ, tx τ] = .ok (.bl (bel σ τ)) := by
  have h2 := h.six
  simp [p_is_below, look_eq b h, look_telling_eq b h σ hs, look_telling_eq b h τ ht, below_eq σ τ (by omega)]
/-! ### rounds -/
theorem atI_last {α : Type} (l : List α) (x : α) : atI (l ++ [x]) (-1) = some x := by
  unfold atI ixN
  rw [if_neg (by decide), if_pos (by simp; omega)]
  simp
  rw [show (-1 + ((l.length : Int) + 1)).toNat = l.length by omega]
  simp
theorem rounds_loop (b : Bk) (hb : b.ok) (d1 : D) : ∀ (k n : Nat) (τ : Tel) (acc : List D), τ.length = b.length → bel τ (b.next τ) = true → τ.count .n ≤ k → k < n → acc.length + k ≤ 1000 →
    whileL (tstB (bin dNe (callE p_next_of (acons (var 0) (acons (bin dIx (varB 2) (un dNeg (con (.int 1)))) anil))) (bin dIx (varB 2) (un dNeg (con (.int 1)))))) p_rounds_from_b0 n [.pl (bk b), .pl d1, .own (.lst (acc ++ [tx τ]))] =
      .nx [.pl (bk b), .pl d1, .own (.lst (acc ++ (rnds b k τ).map tx))]
  | k, 0, _, _, _, _, _, h, _ => absurd h (by omega)
  | k, n + 1, τ, acc, hl, hg, hc, hk, ha => by
    have hnx := next_of_eq b hb τ hl
    have hbq : (List.map Wo.c (b.next τ) == List.map Wo.c τ) = decide (b.next τ = τ) := by
      rw [Bool.eq_iff_iff, beq_iff_eq, decide_eq_true_eq]
      exact tx_inj
    unfold whileL
    by_cases q : b.next τ = τ
    · have e1 : (rnds b k τ).map tx = [tx τ] := by
        cases k with
        | zero => rfl
        | succ k => unfold rnds; rw [if_pos q]; rfl
      simp only [tx] at hnx e1 ⊢
      simp [atI_last, hnx, hbq, q, e1]
    · cases k with
      | zero =>
        exfalso
        have := count_lt (ws := τ) (vs := b.next τ) (by rw [next_len]; exact hl) (fun p hp => List.all_eq_true.mp hg p hp) q
        omega
      | succ k =>
        have e1 : rnds b (k + 1) τ = τ :: rnds b k (b.next τ) := by
          rw [show rnds b (k + 1) τ = if b.next τ = τ then [τ] else τ :: rnds b k (b.next τ) from rfl, if_neg q]
        have hlt := count_lt (ws := τ) (vs := b.next τ) (by rw [next_len]; exact hl) (fun p hp => List.all_eq_true.mp hg p hp) q
        have ih := rounds_loop b hb d1 k n (b.next τ) (acc ++ [tx τ]) (next_len b τ) (next_mono b hg (by rw [next_len]; exact hl)) (by omega) (by omega) (by simp; omega)
        have hal : acc.length + 1 < 16777216 := by omega
        rw [e1]
        simp only [tx] at hnx ih ⊢
        simp [atI_last, hnx, hbq, q, p_rounds_from_b0, hal]
        simp [p_rounds_from_b0] at ih
        simpa [tx] using ih
theorem rounds_from_eq (b : Bk) (hb : b.ok) (τ : Tel) (hl : τ.length = b.length) (hg : bel τ (b.next τ) = true) : p_rounds_from [bk b, tx τ] = .ok (.lst ((rnds b b.length τ).map tx)) := by
  have h2 := hb.six
  have hc : τ.count .n ≤ b.length := by rw [← hl]; exact List.count_le_length
  have := rounds_loop b hb (tx τ) b.length 1000 τ [] hl hg hc (by omega) (by simp; omega)
  simp at this
  simp [p_rounds_from, sWhile, this]
def Bk.low (b : Bk) : Tel := List.replicate b.length .n
theorem low_len (b : Bk) : b.low.length = b.length := by unfold Bk.low; simp
theorem low_bel (b : Bk) (τ : Tel) : bel b.low τ = true := by
  unfold bel
  rw [List.all_eq_true]
  intro p hp
  have : p.1 ∈ b.low := List.of_mem_zip hp |>.1
  unfold Bk.low at this
  rw [List.eq_of_mem_replicate this]
  rfl
theorem rep_n (m : Nat) : rep [110] (m : Int) = (List.replicate m Wo.n).map Wo.c := by
  unfold rep
  rw [Int.toNat_natCast, List.map_replicate]
  induction m with
  | zero => rfl
  | succ m ih => rw [List.replicate_succ, List.flatten_cons, ih, List.replicate_succ]; rfl
theorem rounds_eq (b : Bk) (hb : b.ok) : p_rounds [bk b] = .ok (.lst ((rnds b b.length b.low).map tx)) := by
  have h2 := hb.six
  have h3 : b.length ≤ 16777216 := by omega
  have h4 := rounds_from_eq b hb b.low (low_len b) (low_bel b _)
  have h5 := rep_n b.length
  have hlb : dLen (bk b) = .ok (.int b.length) := by simp [bk, h3]
  unfold Bk.low tx at h4
  rw [← h5] at h4
  have q1 : 1 * ((b.length : Int)).toNat ≤ 16777216 := by omega
  have q2 : (b.length : Int) < 1000 := by omega
  have q3 : (-1000 : Int) < b.length := by omega
  have h6 : dMul (.str [110]) (.int b.length) = .ok (.str (rep [110] b.length)) := by
    unfold dMul
    simp [h3, q2, q3]
  simp [p_rounds, look_eq b hb, hlb, -dLen, h6, h4]
  rfl
theorem atI_map_last {α : Type} (F : α → D) (l : List α) (h : l ≠ []) : atI (l.map F) (-1) = some (F (l.getLast h)) := by
  conv => lhs; rw [← List.dropLast_concat_getLast h]
  rw [List.map_append]
  exact atI_last _ _
theorem least_eq (b : Bk) (hb : b.ok) : p_least [bk b] = .ok (tx ((rnds b b.length b.low).getLast (rnds_ne b _ _))) := by
  simp [p_least, rounds_eq b hb, atI_map_last _ _ (rnds_ne b _ _)]
theorem grown_ok (b : Bk) (hb : b.ok) (τ : Tel) (hl : τ.length = b.length) (hg : bel τ (b.next τ) = true) : p_grown [bk b, tx τ] = .ok (tx ((rnds b b.length τ).getLast (rnds_ne b _ _))) := by
  have h2 := hb.six
  simp [p_grown, look_eq b hb, look_telling_eq b hb τ hl, next_of_eq b hb τ hl, below_eq τ (b.next τ) (by omega), hg, rounds_from_eq b hb τ hl hg, atI_map_last _ _ (rnds_ne b _ _)]
theorem grown_rs (b : Bk) (hb : b.ok) (τ : Tel) (hl : τ.length = b.length) (hg : bel τ (b.next τ) = false) : p_grown [bk b, tx τ] = .rs .notSound := by
  have h2 := hb.six
  simp [p_grown, look_eq b hb, look_telling_eq b hb τ hl, next_of_eq b hb τ hl, below_eq τ (b.next τ) (by omega), hg]
end SR

set_option linter.all false
set_option autoImplicit false
set_option Elab.async false
set_option maxRecDepth 100000
/-! Th5: things that == can look at. -/
namespace SR
theorem good_ws (ws : List Wo) : (D.lst (ws.map fun w => .str [w.c])).good = true := by
  have h1 : ∀ ws : List Wo, D.lays (ws.map fun w => D.str [w.c]) = true := by
    intro ws
    induction ws with
    | nil => simp [D.lays]
    | cons w ws ih =>
      rw [List.map_cons]
      simp only [D.lays, D.lay, ih]
      cases w <;> rfl
  have h2 : ∀ ws : List Wo, D.deps (ws.map fun w => D.str [w.c]) = 0 := by
    intro ws
    induction ws with
    | nil => simp [D.deps]
    | cons w ws ih =>
      rw [List.map_cons]
      simp only [D.deps, D.dep, ih]
      rfl
  unfold D.good
  simp only [D.lay, D.dep, h1, h2]
  rfl
theorem tx_beq (σ τ : Tel) : (σ.map Wo.c == τ.map Wo.c) = decide (σ = τ) := by
  rw [Bool.eq_iff_iff, beq_iff_eq, decide_eq_true_eq]
  exact tx_inj
theorem lst_beq : ∀ ws : List Wo, D.eqs (ws.map fun w => D.str [w.c]) (ws.map fun w => D.str [w.c]) = true
  | [] => by simp
  | w :: ws => by simp [lst_beq ws]
theorem good_rows (l : List Tel) : (D.lst (l.map tx)).good = true := by
  have h0 : ∀ τ : Tel, (τ.map Wo.c).all okC = true := by
    intro τ
    induction τ with
    | nil => rfl
    | cons w τ ih => rw [List.map_cons, List.all_cons, ih]; cases w <;> rfl
  have h1 : ∀ l : List Tel, D.lays (l.map tx) = true := by
    intro l
    induction l with
    | nil => simp [D.lays]
    | cons τ l ih =>
      rw [List.map_cons]
      simp only [D.lays, tx, D.lay, h0]
      simpa using ih
  have h2 : ∀ l : List Tel, D.deps (l.map tx) = 0 := by
    intro l
    induction l with
    | nil => simp [D.deps]
    | cons τ l ih =>
      rw [List.map_cons]
      simp only [D.deps, tx, D.dep]
      simpa using ih
  unfold D.good
  simp only [D.lay, D.dep, h1, h2]
  rfl
theorem rows_beq : ∀ l : List Tel, D.eqs (l.map tx) (l.map tx) = true
  | [] => by simp
  | τ :: l => by simp [tx, rows_beq l]
theorem good_ones {α : Type} (l : List α) : (D.lst (l.map fun _ => .int 1)).good = true := by
  have h1 : ∀ l : List α, D.lays (l.map fun _ => D.int 1) = true := by
    intro l
    induction l with
    | nil => simp [D.lays]
    | cons τ l ih => rw [List.map_cons]; simp only [D.lays, D.lay, ih]; rfl
  have h2 : ∀ l : List α, D.deps (l.map fun _ => D.int 1) = 0 := by
    intro l
    induction l with
    | nil => simp [D.deps]
    | cons τ l ih => rw [List.map_cons]; simp only [D.deps, D.dep, ih]; rfl
  unfold D.good
  simp only [D.lay, D.dep, h1, h2]
  rfl
theorem ones_beq {α : Type} : ∀ l : List α, D.eqs (l.map fun _ => D.int 1) [] = l.isEmpty
  | [] => by simp
  | _ :: _ => by simp
end SR

set_option linter.all false
set_option autoImplicit false
set_option Elab.async false
set_option maxRecDepth 100000
/-! Q1: the law's books -/
namespace SR
def seedZ (s k : Int) : Int := ((s * 1103515245 + 7919 * k + 12345) % 2147483647) ^ 5 % 2147483647
theorem seed_eq (s k : Int) : l_seed [.int s, .int k] = .ok (.int (seedZ s k)) := by
  have h1 : 0 ≤ (s * 1103515245 + 7919 * k + 12345) % 2147483647 := Int.emod_nonneg _ (by decide)
  have h2 : (s * 1103515245 + 7919 * k + 12345) % 2147483647 < 2147483647 := Int.emod_lt_of_pos _ (by decide)
  have h3 : ((s * 1103515245 + 7919 * k + 12345) % 2147483647).natAbs < 18446744073709551616 := by omega
  unfold seedZ
  simp [l_seed, dMul, small64, dPow, h3]
theorem cell_eq (ns : List Int) (k : Nat) : ∃ z, l_cell [.scr ns, .int k] = .ok (.int z) := by
  by_cases h : k < ns.length
  · exact ⟨ns[k], by simp [l_cell, h]⟩
  · exact ⟨0, by simp [l_cell, h]⟩
theorem pick_eq (s m : Int) (hm : 0 < m) : l_pick [.int s, .int m] = .ok (.int (s / 97 % m)) := by
  simp [l_pick, hm]
theorem mod_nat (z : Int) (m : Nat) (hm : 0 < m) : ∃ i : Nat, i < m ∧ z % (m : Int) = i := by
  have h1 : 0 ≤ z % (m : Int) := Int.emod_nonneg _ (by omega)
  have h2 : z % (m : Int) < m := Int.emod_lt_of_pos _ (by omega)
  exact ⟨(z % (m : Int)).toNat, by omega, by omega⟩
theorem small62_nat (m : Nat) (h : m ≤ 1000000) : small62 (m : Int) = true := by
  unfold small62
  rw [decide_eq_true_eq]
  omega
theorem rng_0 (m : Nat) : rng 0 (m : Int) = (List.range m).map fun i => D.int (i : Nat) := by
  unfold rng
  simp
set_option maxHeartbeats 2000000 in
theorem l_saying_ex (m : Nat) (h1 : 1 ≤ m) (h6 : m ≤ 6) : ∀ (k n : Nat) (s : Int), 1 ≤ k → k ≤ n → ∃ y : Sy, y.ok m k ∧ l_saying n [.int s, .int m, .int k] = .ok y.d
  | 0, _, _, h, _ => absurd h (by omega)
  | k + 1, 0, _, _, h => absurd h (by omega)
  | k + 1, n + 1, s, _, hk => by
    have hp := pick_eq s 12 (by decide)
    have p1 : 0 ≤ s / 97 % 12 := Int.emod_nonneg _ (by decide)
    have p2 : s / 97 % 12 < 12 := Int.emod_lt_of_pos _ (by decide)
    generalize s / 97 % 12 = p at *
    have hmi : 0 < m := by omega
    by_cases hd : 0 < k ∧ p < 7
    · obtain ⟨y1, o1, e1⟩ := l_saying_ex m h1 h6 k n (seedZ s 1) hd.1 (by omega)
      obtain ⟨y2, o2, e2⟩ := l_saying_ex m h1 h6 k n (seedZ s 2) hd.1 (by omega)
      have hk0 : (1 : Int) < (k : Int) + 1 := by omega
      by_cases hp3 : p < 3
      · refine ⟨.neg y1, o1, ?_⟩
        simp [l_saying, hp, hk0, hd.1, hd.2, seed_eq, e1, hp3]
      · have q0 : p % 2 = 0 ∨ p % 2 = 1 := by omega
        rcases q0 with q | q
        · refine ⟨.and y1 y2, ⟨o1, o2⟩, ?_⟩
          simp [l_saying, hp, hk0, hd.1, hd.2, seed_eq, e1, e2, hp3, q]
        · refine ⟨.or y1 y2, ⟨o1, o2⟩, ?_⟩
          simp [l_saying, hp, hk0, hd.1, hd.2, seed_eq, e1, e2, hp3, q]
    · have hd' : ¬ ((1 : Int) < (k : Int) + 1 ∧ p < 7) := by omega
      have hdt : (if (1 : Int) < (k : Int) + 1 then (Res.ok (decide (p < 7))) else Res.ok false) = Res.ok false := by
        by_cases c1 : (1 : Int) < (k : Int) + 1
        · rw [if_pos c1, decide_eq_false (fun c2 => hd' ⟨c1, c2⟩)]
        · rw [if_neg c1]
      by_cases hp10 : p < 10
      · obtain ⟨i, i1, i2⟩ := mod_nat (s / 7) m (by omega)
        refine ⟨.says i, i1, ?_⟩
        by_cases c1 : 0 < k
        · have c2 : ¬ p < 7 := by omega
          simp [l_saying, hp, seed_eq, hp10, hmi, i2, c1, c2]
        · have c3 : ¬ ((1 : Int) < (k : Int) + 1) := by omega
          simp [l_saying, hp, seed_eq, hp10, hmi, i2, c1, c3]
      · by_cases hp1 : p = 10
        · have q0 : s / 7 % 2 = 0 ∨ s / 7 % 2 = 1 := by omega
          have c2 : ¬ p < 7 := by omega
          subst hp1
          rcases q0 with q | q
          · refine ⟨.yes, trivial, ?_⟩
            simp [l_saying, hp, q]
          · refine ⟨.no, trivial, ?_⟩
            simp [l_saying, hp, q]
        · have c2 : ¬ p < 7 := by omega
          obtain ⟨lo, i1, i2⟩ := mod_nat (s / 7) (m + 1) (by omega)
          obtain ⟨st, j1, j2⟩ := mod_nat (s / 11) (m + 1 - lo) (by omega)
          have j2' : s / 11 % ((m : Int) + 1 - lo) = st := by rw [← j2]; congr 1; omega
          have i2' : s / 7 % ((m : Int) + 1) = lo := i2
          have hpos : (0 : Int) < (m : Int) + 1 - lo := by omega
          have hpos1 : (0 : Int) < (m : Int) + 1 := by omega
          have hs := small62_nat m (by omega)
          have hml : m ≤ 16777216 := by omega
          refine ⟨.many lo (lo + st) ((List.range m).filter fun i => decide (0 < seedZ s i / 5 % 3)), ⟨by omega, by omega, fun r hr => List.mem_range.mp (List.mem_filter.mp hr).1, List.Pairwise.filter _ List.pairwise_lt_range⟩, ?_⟩
          have hb : (p == 10) = false := by simpa using hp1
          simp [l_saying, hp, c2, hp10, hb, i2', hpos, hpos1, j2', hs, rng_0, seed_eq]
          rw [compM_ok (fun i : Nat => decide (0 < seedZ s i / 5 % 3)) (fun i : Nat => D.int i) (fun a ha => by simp) (fun a ha _ => rfl)]
          have hlo : (lo : Int) < (m : Int) + 1 := by omega
          simp [hml, c2, j2', hpos, hlo]
theorem ok_mono (m : Nat) : ∀ (k k' : Nat) (s : Sy), k ≤ k' → s.ok m k → s.ok m k'
  | 0, _, _, _, h => h.elim
  | k + 1, 0, _, h, _ => absurd h (by omega)
  | k + 1, k' + 1, s, hk, h => by
    cases s with
    | yes => trivial
    | no => trivial
    | says i => exact h
    | neg a => exact ok_mono m k k' a (by omega) h
    | and a b => exact ⟨ok_mono m k k' a (by omega) h.1, ok_mono m k k' b (by omega) h.2⟩
    | or a b => exact ⟨ok_mono m k k' a (by omega) h.1, ok_mono m k k' b (by omega) h.2⟩
    | many lo hi row => exact h
theorem l_book_ex (ns : List Int) (at_ : Nat) : ∃ b : Bk, b.ok ∧ l_book [.scr ns, .int at_] = .ok (bk b) := by
  obtain ⟨c0, hc0⟩ := cell_eq ns at_
  have hse := seed_eq c0 0
  generalize seedZ c0 0 = z at *
  have hm : ∃ m : Nat, 1 ≤ m ∧ m ≤ 6 ∧ atI [D.int (1 + z / 5 % 6), .int 3, .int 4, .int 6] (z / 7 % 4) = some (.int m) := by
    have q : z / 7 % 4 = 0 ∨ z / 7 % 4 = 1 ∨ z / 7 % 4 = 2 ∨ z / 7 % 4 = 3 := by omega
    rcases q with q | q | q | q <;> rw [q]
    · refine ⟨(1 + z / 5 % 6).toNat, by omega, by omega, ?_⟩
      rw [show ((1 + z / 5 % 6).toNat : Int) = 1 + z / 5 % 6 by omega]
      simp
    · exact ⟨3, by omega, by omega, by simp⟩
    · exact ⟨4, by omega, by omega, by simp⟩
    · exact ⟨6, by omega, by omega, by simp⟩
  obtain ⟨m, h1, h6, hat⟩ := hm
  have hs := small62_nat m (by omega)
  simp [l_book, hc0, hse, hat, hs, rng_0]
  obtain ⟨ρ', e, l, x5, x6, hl, hok, rfl⟩ := forL_all (f := forF (gSet 5) l_book_b0) (fun i : Nat => D.int i) (fun k ρ => ∃ (l : List Sy) (x5 x6 : Slot), l.length = k ∧ (∀ s ∈ l, s.ok m 4) ∧
      ρ = [.pl (.scr ns), .pl (.int at_), .pl (.int z), .pl (.int m), .own (.lst (l.map Sy.d)), x5, x6]) (List.range m) 0 [.pl (.scr ns), .pl (.int at_), .pl (.int z), .pl (.int m), .own (.lst []), .dead, .dead] ⟨[], .dead, .dead, rfl, fun _ h => (nomatch h), rfl⟩ (fun i x ρ hx hI => by
    obtain ⟨l, x5, x6, hl, hok, rfl⟩ := hI
    have hx' : x = i := by
      have := (List.getElem?_eq_some_iff.mp hx).2
      simpa using this.symm
    have him : i < m := by
      have := (List.getElem?_eq_some_iff.mp hx).1
      simpa using this
    subst hx'
    obtain ⟨c, hc⟩ := cell_eq ns (at_ + 1 + x % 3)
    push_cast at hc
    have hs2 := seed_eq (c + 41 * x) x
    generalize seedZ (c + 41 * x) x = u at *
    have hd : ∃ k : Nat, 1 ≤ k ∧ k ≤ 4 ∧ atI [D.int 4, .int 2, .int 3, .int 1] (u / 13 % 4) = some (.int k) := by
      have q : u / 13 % 4 = 0 ∨ u / 13 % 4 = 1 ∨ u / 13 % 4 = 2 ∨ u / 13 % 4 = 3 := by omega
      rcases q with q | q | q | q <;> rw [q]
      · exact ⟨4, by omega, by omega, by simp⟩
      · exact ⟨2, by omega, by omega, by simp⟩
      · exact ⟨3, by omega, by omega, by simp⟩
      · exact ⟨1, by omega, by omega, by simp⟩
    obtain ⟨k, k1, k4, hk⟩ := hd
    obtain ⟨y, oy, ey⟩ := l_saying_ex m h1 h6 k 6 u k1 (by omega)
    have hsm : small64 41 = true := by decide
    have hll : l.length < 16777216 := by omega
    refine ⟨_, .inl ?_, l ++ [y], .pl (.int x), .pl (.int u), by simp [hl], fun s hs => ?_, rfl⟩
    · simp [forF, l_book_b0, hc, hs2, hk, ey, dMul, hsm, hll]
    · rcases List.mem_append.mp hs with q | q
      · exact hok s q
      · rw [List.mem_singleton.mp q]; exact ok_mono m k 4 y k4 oy)
  refine ⟨l, ⟨by simp at hl; omega, by simp at hl; omega, fun s hs => by simp at hl; rw [hl]; exact hok s hs⟩, ?_⟩
  rw [e]
  simp [bk]
end SR

set_option linter.all false
set_option autoImplicit false
set_option Elab.async false
set_option maxRecDepth 100000
/-! Q5: counting -/
namespace SR
/-! counting -/
def steps : Wo → List Int
  | .t => [1] | .f => [0] | .n => [0, 1]
def grow (w : Wo) (rows : List Int) : List Int := rows.flatMap fun r => (steps w).map fun s => r + s
def sums (ws : List Wo) : List Int := ws.foldl (fun rows w => grow w rows) [0]
theorem grow_mem (w : Wo) (rows : List Int) (a b : Int) (h : ∀ x, x ∈ rows ↔ a ≤ x ∧ x ≤ b) (hab : a ≤ b) : ∀ x, x ∈ grow w rows ↔ (a + if w = .t then 1 else 0) ≤ x ∧ x ≤ b + if w = .f then 0 else 1 := by
  intro x
  unfold grow
  rw [List.mem_flatMap]
  cases w with
  | t =>
    simp [steps]
    constructor
    · rintro ⟨y, hy, e⟩
      have := (h y).1 hy
      omega
    · intro hx
      exact ⟨x - 1, (h _).2 (by omega), by omega⟩
  | f =>
    simp [steps]
    exact h x
  | n =>
    simp [steps]
    constructor
    · rintro ⟨y, hy, e⟩
      have := (h y).1 hy
      omega
    · intro hx
      by_cases q : x ≤ b
      · exact ⟨x, (h _).2 (by omega), .inl rfl⟩
      · exact ⟨x - 1, (h _).2 (by omega), .inr (by omega)⟩
theorem sums_mem : ∀ (ws : List Wo) (rows : List Int) (a b : Int), (∀ x, x ∈ rows ↔ a ≤ x ∧ x ≤ b) → a ≤ b → ∀ x, x ∈ ws.foldl (fun rows w => grow w rows) rows ↔ a + ws.count .t ≤ x ∧ x ≤ b + (ws.count .t + ws.count .n : Nat)
  | [], rows, a, b, h, _ => fun x => by simpa using h x
  | w :: ws, rows, a, b, h, hab => fun x => by
    rw [List.foldl_cons, sums_mem ws _ _ _ (grow_mem w rows a b h hab) (by cases w <;> simp <;> omega) x]
    cases w <;> simp [List.count_cons] <;> omega
theorem grow_len (w : Wo) (rows : List Int) : (grow w rows).length ≤ 2 * rows.length := by
  unfold grow
  induction rows with
  | nil => simp
  | cons r rows ih =>
    rw [List.flatMap_cons, List.length_append, List.length_map, List.length_cons]
    have : (steps w).length ≤ 2 := by cases w <;> simp [steps]
    omega
theorem sums_len : ∀ (ws : List Wo) (rows : List Int), (ws.foldl (fun rows w => grow w rows) rows).length ≤ 2 ^ ws.length * rows.length
  | [], rows => by simp
  | w :: ws, rows => by
    rw [List.foldl_cons, List.length_cons]
    have h1 := sums_len ws (grow w rows)
    have h2 := grow_len w rows
    have h3 : 2 ^ ws.length * (grow w rows).length ≤ 2 ^ ws.length * (2 * rows.length) := Nat.mul_le_mul_left _ h2
    rw [Nat.pow_succ, Nat.mul_assoc]
    omega
/-- sorted(set(..)) of truths -/
theorem sset_bl : ∀ l : List Bool, (l.map D.bl).foldr (insD D.lt1) [] = (if l.any (fun b => !b) then [.bl false] else []) ++ (if l.any id then [.bl true] else [])
  | [] => rfl
  | b :: l => by
    rw [List.map_cons, List.foldr_cons, sset_bl l, List.any_cons, List.any_cons]
    cases b <;> cases l.any (fun b => !b) <;> cases l.any id <;> rfl
theorem all_bl (bs : List Bool) : (bs.map D.bl).all D.isBl = true := by
  induction bs with
  | nil => rfl
  | cons b bs ih => rw [List.map_cons, List.all_cons, ih]; rfl
theorem dSSet_bl (bs : List Bool) (h : bs.length < 1000) : dSSet (.lst (bs.map D.bl)) = .ok (.lst ((if bs.any (fun b => !b) then [.bl false] else []) ++ (if bs.any id then [.bl true] else []))) := by
  unfold dSSet kind1
  simp only
  rw [all_bl, ← sset_bl]
  simp [h]
theorem counted_inner (d0 d1 d2 d4 : D) (w : Wo) (rows : List Int) (hr : rows.length ≤ 64) (x7 : Slot) : ∃ ρ', forL (forF (gSet 7) l_counted_b0) (rows.map D.int) [.pl d0, .pl d1, .pl d2, .pl (.lst (rows.map .int)), .pl d4, .pl (.lst ((steps w).map .int)), .pl (.lst []), x7, .dead, .dead] = .nx ρ' ∧
    ∃ x7, ρ' = [.pl d0, .pl d1, .pl d2, .pl (.lst (rows.map .int)), .pl d4, .pl (.lst ((steps w).map .int)), .pl (.lst ((grow w rows).map .int)), x7, .dead, .dead] := by
  obtain ⟨ρ', e, x7, rfl⟩ := forL_all (f := forF (gSet 7) l_counted_b0) D.int (fun k ρ => ∃ x7 : Slot, ρ = [.pl d0, .pl d1, .pl d2, .pl (.lst (rows.map .int)), .pl d4, .pl (.lst ((steps w).map .int)), .pl (.lst ((grow w (rows.take k)).map .int)), x7, .dead, .dead]) rows 0
      [.pl d0, .pl d1, .pl d2, .pl (.lst (rows.map .int)), .pl d4, .pl (.lst ((steps w).map .int)), .pl (.lst []), x7, .dead, .dead] ⟨x7, rfl⟩ (fun i r ρ hw hI => by
    obtain ⟨x7, rfl⟩ := hI
    rw [Nat.zero_add] at *
    have hg : grow w (rows.take (i + 1)) = grow w (rows.take i) ++ (steps w).map (fun s => r + s) := by
      unfold grow
      rw [List.take_add_one, hw]
      simp
    have hl : (grow w (rows.take i)).length ≤ 128 := by
      have := grow_len w (rows.take i)
      have h2 : (rows.take i).length ≤ 64 := by rw [List.length_take]; omega
      omega
    have hs : (steps w).length ≤ 2 := by cases w <;> simp [steps]
    have hq : (grow w (rows.take i)).length + (steps w).length ≤ 16777216 := by omega
    have hq2 : (steps w).length ≤ 16777216 := by omega
    refine ⟨_, .inl ?_, .pl (.int r), rfl⟩
    rw [hg]
    simp [forF, l_counted_b0]
    rw [compM_all (fun s : Int => D.int (r + s)) (fun _ _ => rfl) fun a ha => by simp]
    simp [hq, hq2, Function.comp_def])
  refine ⟨_, e, x7, ?_⟩
  simp
theorem l_counted_eq (lo hi : Nat) (ws : List Wo) (hl : lo ≤ hi) (h6 : ws.length ≤ 6) : l_counted [.int lo, .int hi, .lst (ws.map fun w => .str [w.c])] = .ok (w1 (ofMany lo hi ws)) := by
  simp [l_counted]
  obtain ⟨ρ', e, x4, x5, x6, x7, rfl⟩ := forL_all (f := forF (gSet 4) l_counted_b1) (fun w : Wo => D.str [w.c]) (fun k ρ => ∃ x4 x5 x6 x7 : Slot,
      ρ = [.pl (.int lo), .pl (.int hi), .pl (.lst (ws.map fun w => .str [w.c])), .pl (.lst ((sums (ws.take k)).map .int)), x4, x5, x6, x7, .dead, .dead]) ws 0
      [.pl (.int lo), .pl (.int hi), .pl (.lst (ws.map fun w => .str [w.c])), .pl (.lst [.int 0]), .dead, .dead, .dead, .dead, .dead, .dead] ⟨.dead, .dead, .dead, .dead, rfl⟩ (fun i w ρ hw hI => by
    obtain ⟨x4, x5, x6, x7, rfl⟩ := hI
    have hr : (sums (ws.take i)).length ≤ 64 := by
      have := sums_len (ws.take i) [0]
      have h2 : (ws.take i).length ≤ 6 := by rw [List.length_take]; omega
      have h3 : 2 ^ (ws.take i).length ≤ 2 ^ 6 := Nat.pow_le_pow_right (by decide) h2
      rw [List.length_singleton, Nat.mul_one] at this
      exact Nat.le_trans this h3
    have hg : sums (ws.take (i + 1)) = grow w (sums (ws.take i)) := by
      unfold sums
      rw [List.take_add_one, hw]
      simp
    rw [Nat.zero_add] at *
    rw [hg]
    generalize sums (ws.take i) = rows at *
    generalize ws.map (fun w => D.str [w.c]) = wd at *
    obtain ⟨ρ1, e1, x7', rfl⟩ := counted_inner (.int lo) (.int hi) (.lst wd) (.str [w.c]) w rows hr x7
    refine ⟨_, .inl ?_, .pl (.str [w.c]), .pl (.lst ((steps w).map .int)), .pl (.lst ((grow w rows).map .int)), x7', rfl⟩
    cases w <;> simp [forF, l_counted_b1, steps] at e1 ⊢ <;> simp [e1])
  rw [e]
  have hr : (sums ws).length ≤ 64 := by
    have := sums_len ws [0]
    have h3 : 2 ^ ws.length ≤ 2 ^ 6 := Nat.pow_le_pow_right (by decide) h6
    rw [List.length_singleton, Nat.mul_one] at this
    exact Nat.le_trans this h3
  have hmem := sums_mem ws [0] 0 0 (fun x => by simp; omega) (by omega)
  have es : sums (ws.take (0 + ws.length)) = sums ws := by rw [Nat.zero_add, List.take_length]
  rw [es]
  have em : sums ws = ws.foldl (fun rows w => grow w rows) [0] := rfl
  rw [← em] at hmem
  generalize sums ws = rows at *
  generalize ws.map (fun w => D.str [w.c]) = wd at *
  have hr2 : rows.length ≤ 16777216 := by omega
  have hss := dSSet_bl (rows.map fun r => decide ((lo : Int) ≤ r ∧ r ≤ hi)) (by simp; omega)
  simp only [List.map_map, List.any_map, Function.comp_def, id] at hss
  have aT : (rows.any fun r => decide ((lo : Int) ≤ r ∧ r ≤ hi)) = !decide (ws.count .t + ws.count .n < lo ∨ hi < ws.count .t) := by
    rw [Bool.eq_iff_iff]
    simp
    constructor
    · rintro ⟨r, h1, h2⟩
      have := (hmem r).1 h1
      omega
    · intro ⟨h1, h2⟩
      refine ⟨max (lo : Int) (ws.count .t), (hmem _).2 ?_, ?_⟩ <;> omega
  have aF : (rows.any fun r => !decide ((lo : Int) ≤ r ∧ r ≤ hi)) = !decide (lo ≤ ws.count .t ∧ ws.count .t + ws.count .n ≤ hi) := by
    rw [Bool.eq_iff_iff]
    simp
    constructor
    · rintro ⟨r, h1, h2⟩
      have := (hmem r).1 h1
      omega
    · intro h
      by_cases q : ws.count .t < lo
      · exact ⟨(ws.count .t : Int), (hmem _).2 (by omega), by omega⟩
      · exact ⟨((ws.count .t + ws.count .n : Nat) : Int), (hmem _).2 (by omega), by omega⟩
  rw [aT, aF] at hss
  unfold ofMany
  simp
  rw [compM_all (fun r : Int => D.bl (decide ((lo : Int) ≤ r) && decide (r ≤ hi))) (fun _ _ => rfl) fun r hr => by
    by_cases q : (lo : Int) ≤ r <;> simp [q]]
  clear aT aF e es em
  by_cases qA : lo ≤ ws.count .t ∧ ws.count .t + ws.count .n ≤ hi
  · have qB : ¬ (ws.count .t + ws.count .n < lo ∨ hi < ws.count .t) := by omega
    rw [decide_eq_false qB, decide_eq_true qA] at hss
    rw [if_pos qA]
    simp at hss
    simp [hr2, hss]
  · by_cases qB : ws.count .t + ws.count .n < lo ∨ hi < ws.count .t
    · rw [decide_eq_true qB, decide_eq_false qA] at hss
      rw [if_neg qA, if_pos qB]
      simp at hss
      simp [hr2, hss]
    · rw [decide_eq_false qB, decide_eq_false qA] at hss
      rw [if_neg qA, if_neg qB]
      simp at hss
      simp [hr2, hss]
end SR

set_option linter.all false
set_option autoImplicit false
set_option Elab.async false
set_option maxRecDepth 100000
/-! Q2: worths, the next telling, as the laws find them. -/
namespace SR
theorem l_worth_eq (m : Nat) (τ : Tel) (hτ : τ.length = m) (hm : m ≤ 6) : ∀ (k n : Nat) (s : Sy), s.ok m k → k ≤ n → l_worth n [tx τ, s.d] = .ok (w1 (s.w τ))
  | 0, _, _, h, _ => h.elim
  | k + 1, 0, _, _, h => absurd h (by omega)
  | k + 1, n + 1, s, h, hk => by
    have hl : τ.length ≤ 16777216 := by omega
    cases s with
    | yes => simp [l_worth, tx, Sy.w]
    | no => simp [l_worth, tx, Sy.w]
    | says i =>
      have hi : i < τ.length := by rw [hτ]; exact h
      simp [l_worth, tx, Sy.w, hl, List.getElem?_eq_getElem hi]
    | neg a =>
      have h1 := l_worth_eq m τ hτ hm k n a h (by omega)
      have hw : atI [116, 110, 102] ((match a.w τ with | .f => 0 | .n => 1 | .t => 2 : Nat) : Int) = some (a.w τ).not.c := by cases a.w τ <;> rfl
      have hs : signIx (a.w τ).c [102, 110, 116] = some (match a.w τ with | .f => 0 | .n => 1 | .t => 2 : Nat) := by cases a.w τ <;> rfl
      simp at hw
      simp [l_worth, Sy.w, h1, compM, hs, hw]
    | and a b =>
      have h1 := l_worth_eq m τ hτ hm k n a h.1 (by omega)
      have h2 := l_worth_eq m τ hτ hm k n b h.2 (by omega)
      have h3 := l_counted_eq 2 2 [a.w τ, b.w τ] (by omega) (by simp)
      simp at h3
      simp [l_worth, Sy.w, h1, h2, h3, compM]
    | or a b =>
      have h1 := l_worth_eq m τ hτ hm k n a h.1 (by omega)
      have h2 := l_worth_eq m τ hτ hm k n b h.2 (by omega)
      have h3 := l_counted_eq 1 2 [a.w τ, b.w τ] (by omega) (by simp)
      simp at h3
      simp [l_worth, Sy.w, h1, h2, h3, compM]
    | many lo hi row =>
      obtain ⟨h1, h2, h4, h5⟩ := h
      have hr0 : row.length ≤ 6 := by
        have := rise_len m row 0 (fun r hr => ⟨Nat.zero_le _, h4 r hr⟩) h5
        omega
      have hr : row.length ≤ 16777216 := by omega
      have h3 := l_counted_eq lo hi (row.map fun r => τ.getD r .n) h1 (by simpa using hr0)
      simp [Function.comp_def] at h3
      simp [l_worth, Sy.w, tx, hl]
      rw [compM_all (fun a => w1 (τ.getD a .n)) (fun _ _ => rfl) fun a ha => by
        have ha' : a < τ.length := by rw [hτ]; exact h4 a ha
        simp [List.getElem?_eq_getElem ha', List.getD_eq_getElem?_getD]]
      simp [hr, h3]
theorem l_next_eq (b : Bk) (h : b.ok) (τ : Tel) (hτ : τ.length = b.length) : l_next [bk b, tx τ] = .ok (tx (b.next τ)) := by
  have h2 := h.six
  have q4 : b.length ≤ 16777216 := by omega
  have hj := join_ws (b.map fun s => s.w τ) (by simp; omega)
  simp [Function.comp_def] at hj
  simp [l_next, bk]
  rw [compM_all (fun s => w1 (Sy.w τ s)) (fun _ _ => rfl) fun a ha => by
    have := l_worth_eq b.length τ hτ (by omega) 4 6 a (h.all a ha) (by omega)
    simp [this]]
  simp [q4, Bk.next, tx, hj, Function.comp_def]
end SR

set_option linter.all false
set_option autoImplicit false
set_option Elab.async false
set_option maxRecDepth 100000
/-! Th6: all tellings, steady ones, what grows. -/
namespace SR
theorem small62_nat' (m : Nat) (h : m ≤ 1000000) : small62 (m : Int) = true := by
  unfold small62
  rw [decide_eq_true_eq]
  omega
theorem rng_0' (m : Nat) : rng 0 (m : Int) = (List.range m).map fun i => D.int (i : Nat) := by
  unfold rng
  simp
def signs : List Wo := [.f, .n, .t]
theorem mem_signs (w : Wo) : w ∈ signs := by cases w <;> simp [signs]
/-- all tellings of k, in order -/
def tels : Nat → List Tel
  | 0 => [[]]
  | k + 1 => (tels k).flatMap fun r => signs.map fun w => r ++ [w]
theorem mem_tels : ∀ {k : Nat} {τ : Tel}, τ ∈ tels k ↔ τ.length = k
  | 0, τ => by simp [tels]
  | k + 1, τ => by
    unfold tels
    rw [List.mem_flatMap]
    constructor
    · rintro ⟨r, hr, h⟩
      obtain ⟨w, _, rfl⟩ := List.mem_map.mp h
      rw [List.length_append, mem_tels.mp hr]
      rfl
    · intro h
      have hne : τ ≠ [] := fun e => by subst e; simp at h
      refine ⟨τ.dropLast, mem_tels.mpr (by rw [List.length_dropLast]; omega), List.mem_map.mpr ⟨τ.getLast hne, mem_signs _, ?_⟩⟩
      exact List.dropLast_concat_getLast hne
theorem tels_len : ∀ k : Nat, (tels k).length = 3 ^ k
  | 0 => rfl
  | k + 1 => by
    unfold tels
    rw [List.length_flatMap]
    have : ((tels k).map fun r => (signs.map fun w => r ++ [w]).length) = (tels k).map fun _ => 3 := rfl
    rw [this, List.map_const', List.sum_replicate_nat, tels_len k, Nat.pow_succ]
/-- as texts stand in order -/
def tlt (σ τ : Tel) : Prop := σ.map Wo.c < τ.map Wo.c
theorem tlt_app (r : Tel) {a b : Tel} : tlt (r ++ a) (r ++ b) ↔ tlt a b := by
  unfold tlt
  induction r with
  | nil => rfl
  | cons x r ih =>
    simp [List.cons_append, List.map_cons, List.cons_lt_cons_iff] at ih ⊢
    exact ih
theorem tlt_pre {r s : Tel} (h : tlt r s) (hl : r.length = s.length) (a b : Tel) : tlt (r ++ a) (s ++ b) := by
  unfold tlt at h ⊢
  induction r generalizing s with
  | nil =>
    cases s with
    | nil => simp at h
    | cons y s => simp at hl
  | cons x r ih =>
    cases s with
    | nil => simp at hl
    | cons y s =>
      simp only [List.cons_append, List.map_cons, List.cons_lt_cons_iff] at h ⊢
      rcases h with h | ⟨h1, h2⟩
      · exact .inl h
      · exact .inr ⟨h1, ih h2 (by simpa using hl)⟩
theorem tels_rise : ∀ k : Nat, (tels k).Pairwise tlt
  | 0 => by simp [tels]
  | k + 1 => by
    unfold tels
    rw [List.flatMap_def, List.pairwise_flatten]
    constructor
    · intro l hl
      obtain ⟨r, _, rfl⟩ := List.mem_map.mp hl
      have h1 : tlt [Wo.f] [Wo.n] := by unfold tlt; decide
      have h2 : tlt [Wo.f] [Wo.t] := by unfold tlt; decide
      have h3 : tlt [Wo.n] [Wo.t] := by unfold tlt; decide
      simp [signs, tlt_app, h1, h2, h3]
    · rw [List.pairwise_map]
      refine List.Pairwise.imp_of_mem (fun {r s} hr hs h => ?_) (tels_rise k)
      intro x hx y hy
      obtain ⟨w, _, rfl⟩ := List.mem_map.mp hx
      obtain ⟨v, _, rfl⟩ := List.mem_map.mp hy
      exact tlt_pre h (by rw [mem_tels.mp hr, mem_tels.mp hs]) _ _
/-- all steady tellings -/
def Bk.all (b : Bk) : List Tel := (tels b.length).filter fun τ => decide (b.next τ = τ)
theorem mem_all {b : Bk} {τ : Tel} : τ ∈ b.all ↔ b.next τ = τ := by
  unfold Bk.all
  rw [List.mem_filter, mem_tels, decide_eq_true_eq]
  exact ⟨fun h => h.2, fun h => ⟨by rw [← h, next_len], h⟩⟩
theorem all_rise (b : Bk) : b.all.Pairwise tlt := (tels_rise _).filter _
theorem all_len (b : Bk) : b.all.length ≤ 3 ^ b.length := by
  rw [← tels_len]
  exact List.length_filter_le ..
theorem steady_len {b : Bk} {τ : Tel} (h : b.next τ = τ) : τ.length = b.length := by rw [← h, next_len]
/-! ### order -/
theorem Wo.le_anti {a b : Wo} (h : a.le b = true) (k : b.le a = true) : a = b := by cases a <;> cases b <;> simp [Wo.le] at h k ⊢
theorem tel_ext {σ τ : Tel} (hl : σ.length = τ.length) (h : ∀ i, σ.getD i .n = τ.getD i .n) : σ = τ := by
  apply List.ext_getElem hl
  intro i h1 h2
  have := h i
  simpa [List.getD_eq_getElem?_getD, List.getElem?_eq_getElem h1, List.getElem?_eq_getElem h2] using this
theorem bel_anti {σ τ : Tel} (hl : σ.length = τ.length) (h : bel σ τ = true) (k : bel τ σ = true) : σ = τ :=
  tel_ext hl fun i => Wo.le_anti (bel_get h hl i) (bel_get k hl.symm i)
/-! ### what grows -/
theorem last_cons {α : Type} (x : α) (l : List α) (h : l ≠ []) (h' : x :: l ≠ []) : (x :: l).getLast h' = l.getLast h := List.getLast_cons h
def Bk.grow (b : Bk) (τ : Tel) : Tel := (rnds b b.length τ).getLast (rnds_ne b _ _)
def Bk.up (b : Bk) : Nat → Tel → Tel
  | 0, τ => τ
  | k + 1, τ => b.up k (b.next τ)
theorem rnds_last (b : Bk) : ∀ (k : Nat) (τ : Tel), (rnds b k τ).getLast (rnds_ne b _ _) = b.up k τ
  | 0, τ => rfl
  | k + 1, τ => by
    by_cases q : b.next τ = τ
    · have e : rnds b (k + 1) τ = [τ] := by unfold rnds; rw [if_pos q]
      have : ∀ k, b.up k τ = τ := by
        intro k
        induction k with
        | zero => rfl
        | succ k ih => unfold Bk.up; rw [q]; exact ih
      rw [this]
      simp [e]
    · have e : rnds b (k + 1) τ = τ :: rnds b k (b.next τ) := by
        show (if b.next τ = τ then [τ] else τ :: rnds b k (b.next τ)) = _
        rw [if_neg q]
      simp only [e]
      rw [last_cons _ _ (rnds_ne b k (b.next τ)), rnds_last b k]
      rfl
theorem grow_up (b : Bk) (τ : Tel) : b.grow τ = b.up b.length τ := rnds_last b _ τ
theorem up_len (b : Bk) : ∀ (k : Nat) (τ : Tel), τ.length = b.length → (b.up k τ).length = b.length
  | 0, _, h => h
  | k + 1, τ, _ => up_len b k _ (next_len b τ)
theorem grow_ln (b : Bk) {τ : Tel} (h : τ.length = b.length) : (b.grow τ).length = b.length := by rw [grow_up]; exact up_len b _ τ h
theorem up_sound (b : Bk) : ∀ (k : Nat) (τ : Tel), τ.length = b.length → bel τ (b.next τ) = true → bel τ (b.up k τ) = true ∧ bel (b.up k τ) (b.next (b.up k τ)) = true
  | 0, τ, _, h => ⟨bel_refl τ, h⟩
  | k + 1, τ, hl, h => by
    have ih := up_sound b k (b.next τ) (next_len b τ) (next_mono b h (by rw [next_len]; exact hl))
    exact ⟨bel_trans (by rw [next_len]; exact hl) (by rw [next_len]; exact (up_len b k _ (next_len b τ)).symm) h ih.1, ih.2⟩
theorem up_fix (b : Bk) : ∀ (k : Nat) (τ : Tel), τ.length = b.length → bel τ (b.next τ) = true → τ.count .n ≤ k → b.next (b.up k τ) = b.up k τ
  | 0, τ, hl, h, hc => by
    by_cases q : b.next τ = τ
    · exact q
    · have := count_lt (ws := τ) (vs := b.next τ) (by rw [next_len]; exact hl) (fun p hp => List.all_eq_true.mp h p hp) q
      omega
  | k + 1, τ, hl, h, hc => by
    by_cases q : b.next τ = τ
    · have : ∀ k, b.up k τ = τ := by
        intro k
        induction k with
        | zero => rfl
        | succ k ih => unfold Bk.up; rw [q]; exact ih
      rw [this]; exact q
    · have := count_lt (ws := τ) (vs := b.next τ) (by rw [next_len]; exact hl) (fun p hp => List.all_eq_true.mp h p hp) q
      exact up_fix b k (b.next τ) (next_len b τ) (next_mono b h (by rw [next_len]; exact hl)) (by omega)
theorem up_le (b : Bk) {υ : Tel} (hu : b.next υ = υ) : ∀ (k : Nat) (τ : Tel), τ.length = b.length → bel τ υ = true → bel (b.up k τ) υ = true
  | 0, _, _, h => h
  | k + 1, τ, hl, h => up_le b hu k _ (next_len b τ) (by
      have := next_mono b h (by rw [hl, steady_len hu])
      rw [hu] at this
      exact this)
theorem grow_fix (b : Bk) {τ : Tel} (hl : τ.length = b.length) (h : bel τ (b.next τ) = true) : b.next (b.grow τ) = b.grow τ := by
  rw [grow_up]; exact up_fix b _ τ hl h (by rw [← hl]; exact List.count_le_length)
theorem grow_ge (b : Bk) {τ : Tel} (hl : τ.length = b.length) (h : bel τ (b.next τ) = true) : bel τ (b.grow τ) = true := by
  rw [grow_up]; exact (up_sound b _ τ hl h).1
theorem grow_le (b : Bk) {τ υ : Tel} (hl : τ.length = b.length) (hu : b.next υ = υ) (h : bel τ υ = true) : bel (b.grow τ) υ = true := by
  rw [grow_up]; exact up_le b hu _ τ hl h
theorem grow_steady (b : Bk) {τ : Tel} (h : b.next τ = τ) : b.grow τ = τ := by
  rw [grow_up]
  have : ∀ k, b.up k τ = τ := by
    intro k
    induction k with
    | zero => rfl
    | succ k ih => unfold Bk.up; rw [h]; exact ih
  exact this _
/-- the least steady telling -/
def Bk.lst (b : Bk) : Tel := b.grow b.low
theorem lst_fix (b : Bk) : b.next b.lst = b.lst := grow_fix b (low_len b) (low_bel b _)
theorem lst_le (b : Bk) {υ : Tel} (hu : b.next υ = υ) : bel b.lst υ = true := grow_le b (low_len b) hu (low_bel b _)
theorem lst_len (b : Bk) : b.lst.length = b.length := steady_len (lst_fix b)
theorem lst_mem (b : Bk) : b.lst ∈ b.all := mem_all.mpr (lst_fix b)
/-! ### going together -/
def Wo.comp (a b : Wo) : Bool := decide (a = .n) || decide (b = .n) || decide (a = b)
/-- nothing is true in one and false in the other -/
def tog (σ τ : Tel) : Bool := (σ.zip τ).all fun p => p.1.comp p.2
theorem tog_get {σ τ : Tel} (h : tog σ τ = true) (hl : σ.length = τ.length) (i : Nat) : (σ.getD i .n).comp (τ.getD i .n) = true := by
  by_cases hi : i < σ.length
  · have hz : (σ.zip τ)[i]? = some (σ[i], τ[i]'(by omega)) := by
      rw [List.getElem?_zip_eq_some]
      exact ⟨List.getElem?_eq_getElem hi, List.getElem?_eq_getElem (by omega)⟩
    have := List.all_eq_true.mp h _ (List.mem_of_getElem? hz)
    simpa [List.getD_eq_getElem?_getD, List.getElem?_eq_getElem hi, List.getElem?_eq_getElem (show i < τ.length by omega)] using this
  · simp [List.getD_eq_getElem?_getD, List.getElem?_eq_none (show σ.length ≤ i by omega), Wo.comp]
theorem tog_of {σ τ : Tel} (hl : σ.length = τ.length) (h : ∀ i, (σ.getD i .n).comp (τ.getD i .n) = true) : tog σ τ = true := by
  unfold tog
  rw [List.all_eq_true]
  intro p hp
  obtain ⟨i, hi⟩ := List.getElem?_of_mem hp
  rw [List.getElem?_zip_eq_some] at hi
  have := h i
  simpa [List.getD_eq_getElem?_getD, hi.1, hi.2] using this
/-- both told at once -/
def Wo.join (a b : Wo) : Wo := if a = .n then b else a
def tjoin (σ τ : Tel) : Tel := (σ.zip τ).map fun p => p.1.join p.2
theorem tjoin_len {σ τ : Tel} (hl : σ.length = τ.length) : (tjoin σ τ).length = σ.length := by unfold tjoin; rw [List.length_map, List.length_zip]; omega
theorem tjoin_get {σ τ : Tel} (hl : σ.length = τ.length) (i : Nat) : (tjoin σ τ).getD i .n = (σ.getD i .n).join (τ.getD i .n) := by
  by_cases hi : i < σ.length
  · have hz : (σ.zip τ)[i]? = some (σ[i], τ[i]'(by omega)) := by
      rw [List.getElem?_zip_eq_some]
      exact ⟨List.getElem?_eq_getElem hi, List.getElem?_eq_getElem (by omega)⟩
    simp [tjoin, List.getD_eq_getElem?_getD, List.getElem?_map, hz, List.getElem?_eq_getElem hi, List.getElem?_eq_getElem (show i < τ.length by omega)]
  · have h1 : (tjoin σ τ).length ≤ i := by rw [tjoin_len hl]; omega
    simp [List.getD_eq_getElem?_getD, List.getElem?_eq_none h1, List.getElem?_eq_none (show σ.length ≤ i by omega), List.getElem?_eq_none (show τ.length ≤ i by omega), Wo.join]
theorem tjoin_l {σ τ : Tel} (hl : σ.length = τ.length) : bel σ (tjoin σ τ) = true := bel_of (tjoin_len hl).symm fun i => by
  rw [tjoin_get hl]; cases σ.getD i .n <;> cases τ.getD i .n <;> rfl
theorem tjoin_r {σ τ : Tel} (hl : σ.length = τ.length) (h : tog σ τ = true) : bel τ (tjoin σ τ) = true := bel_of (by rw [tjoin_len hl, hl]) fun i => by
  have := tog_get h hl i
  rw [tjoin_get hl]; revert this; cases σ.getD i .n <;> cases τ.getD i .n <;> decide
theorem tjoin_le {σ τ υ : Tel} (hl : σ.length = τ.length) (hu : σ.length = υ.length) (h1 : bel σ υ = true) (h2 : bel τ υ = true) : bel (tjoin σ τ) υ = true := bel_of (by rw [tjoin_len hl]; exact hu) fun i => by
  have a := bel_get h1 hu i
  have b := bel_get h2 (by omega) i
  rw [tjoin_get hl]
  unfold Wo.join
  split
  · exact b
  · exact a
theorem tog_of_le {σ τ υ : Tel} (h1 : σ.length = υ.length) (h2 : τ.length = υ.length) (a : bel σ υ = true) (b : bel τ υ = true) : tog σ τ = true := tog_of (by omega) fun i => by
  have p := bel_get a h1 i
  have q := bel_get b h2 i
  revert p q
  cases σ.getD i .n <;> cases τ.getD i .n <;> cases υ.getD i .n <;> decide
theorem tog_symm {σ τ : Tel} (hl : σ.length = τ.length) (h : tog σ τ = true) : tog τ σ = true := tog_of hl.symm fun i => by
  have := tog_get h hl i
  revert this
  cases σ.getD i .n <;> cases τ.getD i .n <;> decide
theorem tjoin_sound (b : Bk) {σ τ : Tel} (hs : σ.length = b.length) (ht : τ.length = b.length) (h1 : bel σ (b.next σ) = true) (h2 : bel τ (b.next τ) = true) (hc : tog σ τ = true) : bel (tjoin σ τ) (b.next (tjoin σ τ)) = true := by
  have hl : σ.length = τ.length := by omega
  have hj := tjoin_len hl
  have n1 := next_mono b (tjoin_l hl) (by omega)
  have n2 := next_mono b (tjoin_r hl hc) (by omega)
  exact tjoin_le hl (by rw [next_len]; exact hs) (bel_trans (by rw [next_len]; exact hs) (by rw [next_len, next_len]) h1 n1) (bel_trans (by rw [next_len]; exact ht) (by rw [next_len, next_len]) h2 n2)
/-- at odds with no steady one -/
def Bk.intr (b : Bk) (σ : Tel) : Prop := b.next σ = σ ∧ ∀ υ, b.next υ = υ → tog σ υ = true
/-- two such lie below a third -/
theorem intr_join (b : Bk) {σ τ : Tel} (hs : b.intr σ) (ht : b.intr τ) : b.intr (b.grow (tjoin σ τ)) ∧ bel σ (b.grow (tjoin σ τ)) = true ∧ bel τ (b.grow (tjoin σ τ)) = true := by
  have ls := steady_len hs.1
  have lt := steady_len ht.1
  have hl : σ.length = τ.length := by omega
  have hc := hs.2 τ ht.1
  have lj : (tjoin σ τ).length = b.length := by rw [tjoin_len hl]; exact ls
  have sj := tjoin_sound b ls lt (by rw [hs.1]; exact bel_refl σ) (by rw [ht.1]; exact bel_refl τ) hc
  have gl := grow_ln b lj
  refine ⟨⟨grow_fix b lj sj, fun υ hu => ?_⟩, bel_trans (by omega) (by omega) (tjoin_l hl) (grow_ge b lj sj), bel_trans (by omega) (by omega) (tjoin_r hl hc) (grow_ge b lj sj)⟩
  have lu := steady_len hu
  have cj : tog (tjoin σ τ) υ = true := tog_of (by omega) fun i => by
    have p := tog_get (hs.2 υ hu) (by omega) i
    have q := tog_get (ht.2 υ hu) (by omega) i
    rw [tjoin_get hl]
    unfold Wo.join
    split
    · exact q
    · exact p
  have lz : (tjoin (tjoin σ τ) υ).length = b.length := by rw [tjoin_len (by omega)]; exact lj
  have sz := tjoin_sound b lj lu sj (by rw [hu]; exact bel_refl υ) cj
  have gz := grow_ge b lz sz
  have fz := grow_fix b lz sz
  have lgz := grow_ln b lz
  refine tog_of_le (υ := b.grow (tjoin (tjoin σ τ) υ)) (by omega) (by omega) ?_ ?_
  · exact grow_le b lj fz (bel_trans (by omega) (by omega) (tjoin_l (by omega)) gz)
  · exact bel_trans (by omega) (by omega) (tjoin_r (by omega) cj) gz
theorem lst_intr (b : Bk) : b.intr b.lst := ⟨lst_fix b, fun υ hu => tog_of_le (υ := υ) (by rw [lst_len, steady_len hu]) rfl (lst_le b hu) (bel_refl υ)⟩
/-- there is a greatest one -/
theorem intr_top (b : Bk) : ∃ σ, b.intr σ ∧ ∀ τ, b.intr τ → bel τ σ = true := by
  have key : ∀ l : List Tel, (∀ τ ∈ l, b.intr τ) → ∃ σ, b.intr σ ∧ ∀ τ ∈ l, bel τ σ = true := by
    intro l
    induction l with
    | nil => exact fun _ => ⟨b.lst, lst_intr b, fun _ h => nomatch h⟩
    | cons τ l ih =>
      intro h
      obtain ⟨σ, h1, h2⟩ := ih fun υ hu => h υ (List.mem_cons_of_mem _ hu)
      have ht := h τ List.mem_cons_self
      obtain ⟨j1, j2, j3⟩ := intr_join b ht h1
      refine ⟨_, j1, fun υ hu => ?_⟩
      rcases List.mem_cons.mp hu with rfl | hu
      · exact j2
      · have := h υ (List.mem_cons_of_mem _ hu)
        exact bel_trans (by rw [steady_len this.1, steady_len h1.1]) (by rw [steady_len h1.1, steady_len j1.1]) (h2 υ hu) j3
  classical
  obtain ⟨σ, h1, h2⟩ := key (b.all.filter fun τ => decide (b.intr τ)) fun τ h => by simpa using (List.mem_filter.mp h).2
  exact ⟨σ, h1, fun τ ht => h2 τ (List.mem_filter.mpr ⟨mem_all.mpr ht.1, by simpa using ht⟩)⟩
end SR

set_option linter.all false
set_option autoImplicit false
set_option Elab.async false
set_option maxRecDepth 100000
/-! Th7: all_of. -/
namespace SR
/-! what a prefix is known to be -/
def enD (p : Tel) : List (D × D) := (p.map Wo.c).zipIdx.map fun q => (.int q.2, .str [q.1])
theorem look_en (p : Tel) (i : Nat) : lookD (enD p) (.int (i : Nat)) = (p[i]?).map w1 := by
  have go : ∀ (p : Tel) (k i : Nat), lookD (((p.map Wo.c).zipIdx k).map fun q => (D.int q.2, D.str [q.1])) (.int ((k + i : Nat) : Int)) = (p[i]?).map w1 := by
    intro p
    induction p with
    | nil => intro k i; simp
    | cons x p ih =>
      intro k i
      rw [List.map_cons, List.zipIdx_cons, List.map_cons]
      cases i with
      | zero => simp
      | succ i =>
        have h := ih (k + 1) i
        have e : k + 1 + i = k + (i + 1) := by omega
        rw [e] at h
        have ne : ((k : Int) == ((k + (i + 1) : Nat) : Int)) = false := by rw [beq_eq_false_iff_ne]; omega
        unfold lookD at h ⊢
        rw [List.find?_cons]
        simp only [deq_int_int, ne]
        rw [h]
        simp
  have := go p 0 i
  rw [Nat.zero_add] at this
  exact this
/-- known ones, and nothing of the others -/
def pad (m : Nat) (p : Tel) : Tel := (List.range m).map fun j => p.getD j .n
theorem pad_len (m : Nat) (p : Tel) : (pad m p).length = m := by simp [pad]
theorem pad_get (m : Nat) (p : Tel) (h : p.length ≤ m) (i : Nat) : (pad m p).getD i .n = p.getD i .n := by
  by_cases hi : i < m
  · simp [pad, List.getD_eq_getElem?_getD, List.getElem?_map, List.getElem?_range hi]
  · simp [List.getD_eq_getElem?_getD, List.getElem?_eq_none (show (pad m p).length ≤ i by rw [pad_len]; omega), List.getElem?_eq_none (show p.length ≤ i by omega)]
def Bk.at (b : Bk) (i : Nat) : Sy := b.getD i .no
def lowW (b : Bk) (p : Tel) (i : Nat) : Wo := (b.at i).w (pad b.length p)
def goodB (b : Bk) (p : Tel) (i : Nat) : Bool := (decide (lowW b p i = .n) || decide (lowW b p i = p.getD i .n)) && (decide (p.getD i .n ≠ .n) || decide (lowW b p i = .n))
theorem at_ok {b : Bk} (hb : b.ok) {i : Nat} (hi : i < b.length) : (b.at i).ok b.length 4 := by
  unfold Bk.at
  rw [List.getD_eq_getElem?_getD, List.getElem?_eq_getElem hi]
  exact hb.all _ (List.getElem_mem hi)
theorem bk_ix (b : Bk) {i : Nat} (hi : i < b.length) : dIx (bk b) (.int (i : Nat)) = .ok (b.at i).d := by
  simp [bk, Bk.at, List.getD_eq_getElem?_getD, List.getElem?_eq_getElem hi]
theorem next_get (b : Bk) (τ : Tel) {i : Nat} (hi : i < b.length) : (b.next τ).getD i .n = (b.at i).w τ := by
  simp [Bk.next, Bk.at, List.getD_eq_getElem?_getD, List.getElem?_eq_getElem hi]
theorem could_be_eq (b : Bk) (hb : b.ok) (p : Tel) (hp : p.length ≤ b.length) (i : Nat) (hi : i < p.length) : p_could_be [bk b, .dct false (enD p), .int (i : Nat)] = .ok (.bl (goodB b p i)) := by
  have h2 := hb.six
  have hm : b.length ≤ 16777216 := by omega
  have hs := small62_nat' b.length (by omega)
  have hlb : dLen (bk b) = .ok (.int b.length) := by simp [bk, hm]
  have hj := join_ws (pad b.length p) (by rw [pad_len]; omega)
  have hw := worth_of_eq b.length (pad b.length p) (pad_len _ _) (by omega) 4 6 (b.at i) (at_ok hb (by omega)) (by omega)
  have hix := bk_ix b (show i < b.length by omega)
  have hl := look_en p i
  rw [List.getElem?_eq_getElem hi] at hl
  have hg : p.getD i .n = p[i] := by simp [List.getD_eq_getElem?_getD, List.getElem?_eq_getElem hi]
  unfold goodB
  rw [hg]
  unfold lowW
  generalize hv : (b.at i).w (pad b.length p) = v at *
  generalize p[i] = u at *
  simp only [Option.map_some] at hl
  have hrow : (pad b.length p).map (fun w => D.str [w.c]) = (List.range b.length).map fun j => D.str [(p.getD j .n).c] := by simp [pad]
  rw [hrow] at hj
  unfold tx at hw
  have hkn : dIx (.dct false (enD p)) (.int (i : Nat)) = .ok (w1 u) := by simp [hl, -lookD]
  simp [p_could_be, -dLen, hlb, hs, rng_0', -lookD, -dIx]
  rw [compM_all (fun j : Nat => D.str [(p.getD j .n).c]) (fun _ _ => rfl) fun j _ => by
    have hl := look_en p j
    rw [hl]
    cases hq : p[j]? with
    | none => simp [List.getD_eq_getElem?_getD, hq]
    | some w => simp [List.getD_eq_getElem?_getD, hq]]
  simp only [List.getD_eq_getElem?_getD] at hj
  simp [hm, hj, hw, hix, hkn, -dIx, -lookD]
  cases v <;> cases u <;> simp
def fitP (b : Bk) (p : Tel) : Bool := (List.range p.length).all (goodB b p)
def grw (b : Bk) (r : Tel) : List Tel := (signs.map fun w => r ++ [w]).filter (fitP b)
def prun (b : Bk) : Nat → List Tel
  | 0 => [[]]
  | k + 1 => (prun b k).flatMap (grw b)
theorem prun_mem {b : Bk} : ∀ {k : Nat} {r : Tel}, r ∈ prun b k → r.length = k
  | 0, r, h => by simp [prun] at h; simp [h]
  | k + 1, r, h => by
    unfold prun at h
    obtain ⟨q, hq, h⟩ := List.mem_flatMap.mp h
    obtain ⟨w, _, rfl⟩ := List.mem_map.mp (List.mem_filter.mp h).1
    rw [List.length_append, prun_mem hq]
    rfl
theorem grw_len (b : Bk) (r : Tel) : (grw b r).length ≤ 3 := List.length_filter_le _ _
theorem flat_len {α β : Type} (f : α → List β) (n : Nat) (h : ∀ a, (f a).length ≤ n) : ∀ l : List α, (l.flatMap f).length ≤ n * l.length
  | [] => by simp
  | x :: l => by
    rw [List.flatMap_cons, List.length_append, List.length_cons]
    have h1 := h x
    have h2 := flat_len f n h l
    have : n * (l.length + 1) = n * l.length + n := Nat.mul_succ _ _
    omega
theorem prun_len (b : Bk) : ∀ k : Nat, (prun b k).length ≤ 3 ^ k
  | 0 => by simp [prun]
  | k + 1 => by
    unfold prun
    have h1 := flat_len (grw b) 3 (grw_len b) (prun b k)
    have h2 := prun_len b k
    rw [Nat.pow_succ]
    omega
/-! what is left of the pruning -/
def ggB (b : Bk) (p : Tel) : Bool := (List.range (p.length + 1)).all fun j => fitP b (p.take j)
theorem ggB_app (b : Bk) (r : Tel) (w : Wo) : ggB b (r ++ [w]) = (ggB b r && fitP b (r ++ [w])) := by
  unfold ggB
  rw [List.length_append, List.length_singleton, List.range_succ, List.all_append]
  congr 1
  · rw [Bool.eq_iff_iff, List.all_eq_true, List.all_eq_true]
    constructor
    · intro h j hj
      have := h j hj
      rw [List.take_append_of_le_length (by have := List.mem_range.mp hj; omega)] at this
      exact this
    · intro h j hj
      rw [List.take_append_of_le_length (by have := List.mem_range.mp hj; omega)]
      exact h j hj
  · rw [List.all_cons, List.all_nil, Bool.and_true, List.take_of_length_le (by simp)]
theorem prun_eq (b : Bk) : ∀ k : Nat, prun b k = (tels k).filter (ggB b)
  | 0 => by
    have : ggB b [] = true := by simp [ggB, fitP]
    simp [prun, tels, this]
  | k + 1 => by
    unfold prun tels
    rw [prun_eq b k, List.filter_flatMap]
    generalize tels k = l
    induction l with
    | nil => rfl
    | cons r l ih =>
      rw [List.flatMap_cons, ← ih]
      have hf : ((signs.map fun w => r ++ [w]).filter (ggB b)) = if ggB b r = true then grw b r else [] := by
        unfold grw
        split
        · rename_i h
          apply List.filter_congr
          intro x hx
          obtain ⟨w, _, rfl⟩ := List.mem_map.mp hx
          rw [ggB_app, h, Bool.true_and]
        · rename_i h
          rw [List.filter_eq_nil_iff]
          intro x hx
          obtain ⟨w, _, rfl⟩ := List.mem_map.mp hx
          rw [ggB_app]
          simp [h]
      rw [hf]
      by_cases h : ggB b r = true
      · rw [List.filter_cons_of_pos h, if_pos h, List.flatMap_cons]
      · rw [List.filter_cons_of_neg h, if_neg h, List.nil_append]
/-- prefixes of a steady one stay -/
theorem steady_gg {b : Bk} {τ : Tel} (h : b.next τ = τ) : ggB b τ = true := by
  have hl := steady_len h
  unfold ggB
  rw [List.all_eq_true]
  intro j hj
  have hj := List.mem_range.mp hj
  unfold fitP
  rw [List.all_eq_true]
  intro i hi
  have hi := List.mem_range.mp hi
  have htl : (τ.take j).length = j := by rw [List.length_take]; omega
  rw [htl] at hi
  have hp : bel (pad b.length (τ.take j)) τ = true := bel_of (by rw [pad_len, hl]) fun q => by
    rw [pad_get _ _ (by omega)]
    by_cases hq : q < j
    · have e : (τ.take j).getD q .n = τ.getD q .n := by simp [List.getD_eq_getElem?_getD, List.getElem?_take, hq]
      rw [e]; exact Wo.le_refl _
    · have e : (τ.take j).getD q .n = .n := by simp [List.getD_eq_getElem?_getD, List.getElem?_take, hq]
      rw [e]; rfl
  have hw := w_mono hp (by rw [pad_len, hl]) (b.at i)
  have hn := next_get b τ (show i < b.length by omega)
  rw [h] at hn
  have e : (τ.take j).getD i .n = τ.getD i .n := by simp [List.getD_eq_getElem?_getD, List.getElem?_take, hi]
  unfold goodB lowW
  rw [e]
  rw [← hn] at hw
  revert hw
  generalize Sy.w (pad b.length (τ.take j)) (b.at i) = v
  generalize τ.getD i .n = u
  cases v <;> cases u <;> decide
theorem prun_all (b : Bk) : (prun b b.length).filter (fun τ => decide (b.next τ = τ)) = b.all := by
  rw [prun_eq, List.filter_filter]
  unfold Bk.all
  apply List.filter_congr
  intro τ _
  rw [Bool.eq_iff_iff, Bool.and_eq_true, decide_eq_true_eq]
  exact ⟨fun h => h.1, fun h => ⟨h, steady_gg h⟩⟩
/-! the walk's pure function -/
theorem en_dEnum (p : Tel) (h : p.length ≤ 1000) : dEnum (tx p) = .ok (.dct false (enD p)) := by
  unfold dEnum tx
  simp [h]
  rfl
theorem en_keys (p : Tel) : (enD p).map (fun q => q.1) = (List.range p.length).map fun i => D.int (i : Nat) := by
  unfold enD
  rw [List.map_map]
  apply List.ext_getElem (by simp)
  intro i h1 h2
  simp
theorem tx_app (r : Tel) (w : Wo) : tx r = .str (r.map Wo.c) ∧ tx (r ++ [w]) = .str (r.map Wo.c ++ [w.c]) := by
  unfold tx
  simp
theorem could_comp (b : Bk) (hb : b.ok) (p : Tel) (hp : p.length ≤ b.length) (s1 s2 s3 s4 s5 s6 s8 : Slot) :
    comp (src (var 7)) [8] (gSet 8) (notT (tst (callE p_could_be (acons (var 0) (acons (var 7) (acons (var 8) anil)))))) (var 8) [.pl (bk b), s1, s2, s3, s4, s5, s6, .pl (.dct false (enD p)), s8] =
      .ok (.lst (((List.range p.length).filter fun i => !goodB b p i).map fun i => .int (i : Nat))) := by
  have h2 := hb.six
  have hk := en_keys p
  have hcb := fun i (hi : i < p.length) => could_be_eq b hb p hp i hi
  have hl : ((List.range p.length).filter fun i => !goodB b p i).length ≤ 16777216 := by
    have := List.length_filter_le (fun x : Nat => !goodB b p x) (List.range p.length)
    rw [List.length_range] at this
    omega
  simp [hk]
  rw [compM_ok (fun x : Nat => !goodB b p x) (fun x : Nat => D.int x) (fun x hx => by rw [hcb x (List.mem_range.mp hx)]; simp) (fun _ _ _ => rfl)]
  have hpl : p.length ≤ 16777216 := by omega
  simp [hl, hpl]
theorem all_of_b0 (b : Bk) (hb : b.ok) (r : Tel) (hr : r.length < b.length) (w : Wo) (acc : List Tel) (ha : acc.length < 10000) (s1 s2 x5 x6 x7 x8 : Slot) : ∃ y6 y7,
    forF (gSet 5) p_all_of_b0 (w1 w) [.pl (bk b), s1, s2, .own (.lst (acc.map tx)), .pl (tx r), x5, x6, x7, x8] =
      .nx [.pl (bk b), s1, s2, .own (.lst ((acc ++ [r ++ [w]].filter (fitP b)).map tx)), .pl (tx r), .pl (w1 w), y6, y7, x8] := by
  have h2 := hb.six
  have hl2 : r.length + 1 ≤ 16777216 := by omega
  have hen := en_dEnum (r ++ [w]) (by simp; omega)
  have hE := could_comp b hb (r ++ [w]) (by simp; omega) s1 s2 (.own (.lst (acc.map tx))) (.pl (tx r)) (.pl (w1 w)) (.pl (tx (r ++ [w]))) x8
  have hal : acc.length < 16777216 := by omega
  have hfil : ([r ++ [w]].filter (fitP b)) = if (((List.range (r ++ [w]).length).filter fun i => !goodB b (r ++ [w]) i).isEmpty) = true then [r ++ [w]] else [] := by
    have : fitP b (r ++ [w]) = (((List.range (r ++ [w]).length).filter fun i => !goodB b (r ++ [w]) i).isEmpty) := by
      unfold fitP
      rw [Bool.eq_iff_iff, List.all_eq_true, List.isEmpty_iff, List.filter_eq_nil_iff]
      simp
    rw [← this]
    by_cases q : fitP b (r ++ [w]) = true
    · simp [q]
    · simp [q]
  refine ⟨.pl (tx (r ++ [w])), .pl (.dct false (enD (r ++ [w]))), ?_⟩
  rw [hfil]
  generalize ((List.range (r ++ [w]).length).filter fun i => !goodB b (r ++ [w]) i) = ys at *
  obtain ⟨e1, e2⟩ := tx_app r w
  rw [e1, e2] at hE
  rw [e2] at hen
  rw [e1, e2]
  simp only [w1] at hE
  have hm : acc.map tx ++ [D.str (r.map Wo.c ++ [w.c])] = (acc ++ [r ++ [w]]).map tx := by simp [tx]
  cases ys with
  | nil =>
    simp [forF, p_all_of_b0, hl2, hen, hE, -comp, hal]
    exact e2.symm
  | cons y ys => simp [forF, p_all_of_b0, hl2, hen, hE, -comp]
theorem small3 : small62 3 = true := by decide
/-- one row more -/
theorem all_of_b1 (b : Bk) (hb : b.ok) (r : Tel) (hr : r.length < b.length) (acc : List Tel) (ha : acc.length < 9000) (s1 s2 x4 x5 x6 x7 x8 : Slot) : ∃ y5 y6 y7,
    forF (gSet 4) p_all_of_b1 (tx r) [.pl (bk b), s1, s2, .own (.lst (acc.map tx)), x4, x5, x6, x7, x8] =
      .nx [.pl (bk b), s1, s2, .own (.lst ((acc ++ grw b r).map tx)), .pl (tx r), y5, y6, y7, x8] := by
  have e0 : ∀ (ρ : Env), (src (con (.str [102, 110, 116]))) ρ = .ok (signs.map w1) := fun ρ => rfl
  have main := fun (ρ : Env) => forL_all (f := forF (gSet 5) p_all_of_b0) w1 (fun k ρ => ∃ y5 y6 y7, ρ = [.pl (bk b), s1, s2, .own (.lst ((acc ++ ((signs.take k).map fun w => r ++ [w]).filter (fitP b)).map tx)), .pl (tx r), y5, y6, y7, x8]) signs 0
    [.pl (bk b), s1, s2, .own (.lst (acc.map tx)), .pl (tx r), x5, x6, x7, x8] ⟨x5, x6, x7, by simp⟩ (fun i w ρ hw hI => by
    obtain ⟨y5, y6, y7, rfl⟩ := hI
    rw [Nat.zero_add] at *
    have hl : (acc ++ ((signs.take i).map fun w => r ++ [w]).filter (fitP b)).length < 10000 := by
      rw [List.length_append]
      have h1 := List.length_filter_le (fitP b) ((signs.take i).map fun w => r ++ [w])
      have h3 : signs.length = 3 := rfl
      rw [List.length_map, List.length_take] at h1
      omega
    obtain ⟨z6, z7, e⟩ := all_of_b0 b hb r hr w _ hl s1 s2 y5 y6 y7 x8
    have hE : acc ++ ((signs.take (i + 1)).map fun w => r ++ [w]).filter (fitP b) = acc ++ ((signs.take i).map fun w => r ++ [w]).filter (fitP b) ++ [r ++ [w]].filter (fitP b) := by
      rw [List.take_add_one, hw, List.map_append, List.filter_append, List.append_assoc]
      rfl
    refine ⟨_, .inl e, .pl (w1 w), z6, z7, ?_⟩
    rw [hE])
  obtain ⟨ρ', e, y5, y6, y7, rfl⟩ := main []
  refine ⟨y5, y6, y7, ?_⟩
  have h3 : 0 + signs.length = 3 := rfl
  rw [h3] at e
  simp only [forF, gSet, List.set]
  unfold p_all_of_b1
  simp only [sFor, e0]
  rw [e]
  rfl
theorem all_of_b2 (b : Bk) (hb : b.ok) (k : Nat) (hk : k < b.length) (x : Nat) (x2 x3 x4 x5 x6 x7 x8 : Slot) : ∃ y3 y4 y5 y6 y7,
    forF (gSet 2) p_all_of_b2 (.int x) [.pl (bk b), .pl (.lst ((prun b k).map tx)), x2, x3, x4, x5, x6, x7, x8] =
      .nx [.pl (bk b), .pl (.lst ((prun b (k + 1)).map tx)), .pl (.int x), y3, y4, y5, y6, y7, x8] := by
  have h2 := hb.six
  have e0 : ∀ (s2 s3 : Slot), (src (var 1)) [.pl (bk b), .pl (.lst ((prun b k).map tx)), s2, s3, x4, x5, x6, x7, x8] = .ok ((prun b k).map tx) := fun s2 s3 => rfl
  have hpk : (prun b k).length ≤ 729 := by
    have h1 := prun_len b k
    have h2 : 3 ^ k ≤ 3 ^ 6 := Nat.pow_le_pow_right (by decide) (by omega)
    omega
  obtain ⟨ρ', e, y4, y5, y6, y7, rfl⟩ := forL_all (f := forF (gSet 4) p_all_of_b1) tx (fun j ρ => ∃ y4 y5 y6 y7, ρ = [.pl (bk b), .pl (.lst ((prun b k).map tx)), .pl (.int x), .own (.lst ((((prun b k).take j).flatMap (grw b)).map tx)), y4, y5, y6, y7, x8]) (prun b k) 0
    [.pl (bk b), .pl (.lst ((prun b k).map tx)), .pl (.int x), .own (.lst []), x4, x5, x6, x7, x8] ⟨x4, x5, x6, x7, by simp⟩ (fun i r ρ hr hI => by
    obtain ⟨y4, y5, y6, y7, rfl⟩ := hI
    rw [Nat.zero_add] at *
    have hl : (((prun b k).take i).flatMap (grw b)).length < 9000 := by
      have h1 := flat_len (grw b) 3 (grw_len b) ((prun b k).take i)
      rw [List.length_take] at h1
      omega
    have hrl := prun_mem (List.mem_of_getElem? hr)
    obtain ⟨z5, z6, z7, e⟩ := all_of_b1 b hb r (by omega) _ hl (.pl (.lst ((prun b k).map tx))) (.pl (.int x)) y4 y5 y6 y7 x8
    refine ⟨_, .inl e, .pl (tx r), z5, z6, z7, ?_⟩
    rw [List.take_add_one, hr, List.flatMap_append]
    simp)
  refine ⟨.dead, y4, y5, y6, y7, ?_⟩
  rw [Nat.zero_add, List.take_length] at e
  simp only [forF, gSet, List.set]
  unfold p_all_of_b2
  simp [sFor, e0, -src, e]
  rfl
theorem all_of_eq (b : Bk) (hb : b.ok) : p_all_of [bk b] = .ok (.lst (b.all.map tx)) := by
  have h2 := hb.six
  have hm : b.length ≤ 16777216 := by omega
  have hs := small62_nat' b.length (by omega)
  have hlb : dLen (bk b) = .ok (.int b.length) := by simp [bk, hm]
  obtain ⟨ρ', e, y2, y3, y4, y5, y6, y7, y8, rfl⟩ := forL_all (f := forF (gSet 2) p_all_of_b2) (fun i : Nat => D.int i) (fun j ρ => ∃ y2 y3 y4 y5 y6 y7 y8, ρ = [.pl (bk b), .pl (.lst ((prun b j).map tx)), y2, y3, y4, y5, y6, y7, y8]) (List.range b.length) 0
    [.pl (bk b), .pl (.lst [.str []]), .dead, .dead, .dead, .dead, .dead, .dead, .dead] ⟨_, _, _, _, _, _, _, rfl⟩ (fun i x ρ hr hI => by
    obtain ⟨y2, y3, y4, y5, y6, y7, y8, rfl⟩ := hI
    rw [Nat.zero_add] at *
    have hi : i < b.length := by
      have := (List.getElem?_eq_some_iff.mp hr).1
      rw [List.length_range] at this
      exact this
    obtain ⟨z3, z4, z5, z6, z7, e⟩ := all_of_b2 b hb i hi x y2 y3 y4 y5 y6 y7 y8
    exact ⟨_, .inl e, _, _, _, _, _, _, _, rfl⟩)
  rw [Nat.zero_add, List.length_range] at e
  have hpl : ((prun b b.length).filter fun τ => decide (b.next τ = τ)).length ≤ 16777216 := by
    have h1 := prun_len b b.length
    have h3 : 3 ^ b.length ≤ 3 ^ 6 := Nat.pow_le_pow_right (by decide) (by omega)
    have := List.length_filter_le (fun τ => decide (b.next τ = τ)) (prun b b.length)
    omega
  have hpl2 : (prun b b.length).length ≤ 16777216 := by
    have h1 := prun_len b b.length
    have h3 : 3 ^ b.length ≤ 3 ^ 6 := Nat.pow_le_pow_right (by decide) (by omega)
    omega
  simp [p_all_of, hlb, hs, rng_0', -dLen, e]
  rw [compM_ok (fun τ => decide (b.next τ = τ)) tx (fun τ hτ => by
    have hn := next_of_eq b hb τ (prun_mem hτ)
    have hq := tx_beq (b.next τ) τ
    unfold tx at hn ⊢
    simp [hn, hq]) (fun τ _ _ => rfl)]
  rw [prun_all] at hpl ⊢
  simp [hpl, hpl2]
end SR

set_option linter.all false
set_option autoImplicit false
set_option Elab.async false
set_option maxRecDepth 100000
/-! Th8: whole ones, highest ones, the settled one. -/
namespace SR
/-- a comprehension over a list in a name -/
theorem comp_var {α : Type} (F : α → D) (l : List α) (T' : α → Bool) (Y' : α → D) {i j : Nat} {t : TX} {e : EX} {ρ : Env} (h : ρ[i]? = some (.pl (.lst (l.map F)))) (hl : l.length ≤ 16777216)
    (ht : ∀ a ∈ l, t ((ρ.set j .dead).set j (.pl (F a))) = .ok (T' a)) (he : ∀ a ∈ l, T' a = true → e ((ρ.set j .dead).set j (.pl (F a))) = .ok (Y' a)) :
    comp (src (var i)) [j] (gSet j) t e ρ = .ok (.lst ((l.filter T').map Y')) := by
  have hf : (l.filter T').length ≤ 16777216 := Nat.le_trans (List.length_filter_le _ _) hl
  unfold comp src var
  rw [h]
  simp only [ok_bind, itemsK, wipe, compL_set, compM_map]
  rw [compM_ok T' Y' ht he]
  simp only [List.length_map, line_val]
  first | exact if_pos hf | exact if_pos hl
/-- .. over what an expression tells -/
theorem comp_of {α : Type} (F : α → D) (l : List α) (T' : α → Bool) (Y' : α → D) {j : Nat} {t : TX} {x e : EX} {ρ : Env} (h : x ρ = .ok (.lst (l.map F))) (hl : l.length ≤ 16777216)
    (ht : ∀ a ∈ l, t ((ρ.set j .dead).set j (.pl (F a))) = .ok (T' a)) (he : ∀ a ∈ l, T' a = true → e ((ρ.set j .dead).set j (.pl (F a))) = .ok (Y' a)) :
    comp (src x) [j] (gSet j) t e ρ = .ok (.lst ((l.filter T').map Y')) := by
  have hf : (l.filter T').length ≤ 16777216 := Nat.le_trans (List.length_filter_le _ _) hl
  unfold comp src
  rw [h]
  simp only [ok_bind, itemsK, wipe, compL_set, compM_map]
  rw [compM_ok T' Y' ht he]
  simp only [List.length_map, line_val]
  first | exact if_pos hf | exact if_pos hl
/-- .. that keeps all -/
theorem comp_map {α : Type} (F : α → D) (l : List α) (Y' : α → D) {j : Nat} {x e : EX} {ρ : Env} (h : x ρ = .ok (.lst (l.map F))) (hl : l.length ≤ 16777216)
    (he : ∀ a ∈ l, e ((ρ.set j .dead).set j (.pl (F a))) = .ok (Y' a)) : comp (src x) [j] (gSet j) yes e ρ = .ok (.lst (l.map Y')) := by
  rw [comp_of F l (fun _ => true) Y' h hl (fun _ _ => rfl) fun a ha _ => he a ha, List.filter_eq_self.mpr fun _ _ => rfl]
/-- .. over what is walked -/
theorem comp_src {α : Type} (F : α → D) (l : List α) (T' : α → Bool) (Y' : α → D) {j : Nat} {sr : AX} {t : TX} {e : EX} {ρ : Env} (h : sr ρ = .ok (l.map F)) (hl : l.length ≤ 16777216)
    (ht : ∀ a ∈ l, t ((ρ.set j .dead).set j (.pl (F a))) = .ok (T' a)) (he : ∀ a ∈ l, T' a = true → e ((ρ.set j .dead).set j (.pl (F a))) = .ok (Y' a)) :
    comp sr [j] (gSet j) t e ρ = .ok (.lst ((l.filter T').map Y')) := by
  have hf : (l.filter T').length ≤ 16777216 := Nat.le_trans (List.length_filter_le _ _) hl
  unfold comp
  rw [h]
  simp only [ok_bind, wipe, compL_set, compM_map]
  rw [compM_ok T' Y' ht he]
  simp only [List.length_map, line_val]
  first | exact if_pos hf | exact if_pos hl
theorem comp_smap {α : Type} (F : α → D) (l : List α) (Y' : α → D) {j : Nat} {sr : AX} {e : EX} {ρ : Env} (h : sr ρ = .ok (l.map F)) (hl : l.length ≤ 16777216)
    (he : ∀ a ∈ l, e ((ρ.set j .dead).set j (.pl (F a))) = .ok (Y' a)) : comp sr [j] (gSet j) yes e ρ = .ok (.lst (l.map Y')) := by
  rw [comp_src F l (fun _ => true) Y' h hl (fun _ _ => rfl) fun a ha _ => he a ha, List.filter_eq_self.mpr fun _ _ => rfl]
/-- .. by pairs -/
theorem comp_src2 {α : Type} (A B : α → D) (l : List α) (T' : α → Bool) (Y' : α → D) {i j : Nat} {sr : AX} {t : TX} {e : EX} {ρ : Env} (h : sr ρ = .ok (l.map fun a => .tup [A a, B a])) (hl : l.length ≤ 16777216)
    (ht : ∀ a ∈ l, t ((((ρ.set j .dead).set i .dead).set i (.pl (A a))).set j (.pl (B a))) = .ok (T' a)) (he : ∀ a ∈ l, T' a = true → e ((((ρ.set j .dead).set i .dead).set i (.pl (A a))).set j (.pl (B a))) = .ok (Y' a)) :
    comp sr [i, j] (gTup [i, j]) t e ρ = .ok (.lst ((l.filter T').map Y')) := by
  have hf : (l.filter T').length ≤ 16777216 := Nat.le_trans (List.length_filter_le _ _) hl
  unfold comp
  rw [h]
  simp only [ok_bind, wipe, compL_tup]
  rw [compM_ok T' Y' ht he]
  simp only [List.length_map, line_val]
  first | exact if_pos hf | exact if_pos hl
theorem zipD_same {α : Type} (F G : α → D) : ∀ l : List α, zipD (l.map F) (l.map G) = l.map fun a => .tup [F a, G a]
  | [] => rfl
  | x :: l => by rw [List.map_cons, List.map_cons, List.map_cons, ← zipD_same F G l]; rfl
theorem rows_ne (l : List Tel) : dNe (.lst (l.map tx)) (.lst (l.map tx)) = .ok (.bl false) := by
  have h1 := good_rows l
  have h2 := rows_beq l
  simp [h1, h2]
theorem rows_nil (l : List Tel) : dEq (.lst (l.map tx)) (.lst []) = .ok (.bl l.isEmpty) := by
  have h1 := good_rows l
  have h0 : (D.lst []).good = true := by decide
  cases l with
  | nil => simp [h0]
  | cons x l => simp at h1; simp [h1, h0]
theorem dIn_lst (a : D) (xs : List D) : dIn a (.lst xs) = if (a.flat && xs.all D.flat) || (a.good && (D.lst xs).good) then .ok (.bl (xs.any fun x => D.eq x a)) else .bad := by
  cases a with
  | str x => rcases x with _ | ⟨c, _ | ⟨d, x⟩⟩ <;> rfl
  | _ => rfl
theorem rows_in (τ : Tel) (l : List Tel) : dIn (tx τ) (.lst (l.map tx)) = .ok (.bl (decide (τ ∈ l))) := by
  have h1 : (l.map tx).all D.flat = true := by
    rw [List.all_eq_true]
    intro x hx
    obtain ⟨υ, _, rfl⟩ := List.mem_map.mp hx
    rfl
  have h2 : ((l.map tx).any fun x => D.eq x (tx τ)) = decide (τ ∈ l) := by
    rw [Bool.eq_iff_iff, List.any_eq_true, decide_eq_true_eq]
    constructor
    · rintro ⟨x, hx, e⟩
      obtain ⟨υ, hu, rfl⟩ := List.mem_map.mp hx
      unfold tx at e
      rw [deq_str_str, beq_iff_eq] at e
      rw [← tx_inj.mp e]; exact hu
    · intro h
      refine ⟨tx τ, List.mem_map.mpr ⟨τ, h, rfl⟩, ?_⟩
      unfold tx
      simp
  rw [dIn_lst, h1, h2]
  rfl
theorem all_len2 (b : Bk) (hb : b.ok) : b.all.length ≤ 729 := by
  have h1 := all_len b
  have h2 := hb.six
  have h3 : 3 ^ b.length ≤ 3 ^ 6 := Nat.pow_le_pow_right (by decide) (by omega)
  omega
theorem all_steady_eq (b : Bk) (hb : b.ok) : p_all_steady [bk b] = .ok (.lst (b.all.map tx)) := by
  simp [p_all_steady, look_eq b hb, all_of_eq b hb]
def Tel.whole (τ : Tel) : Bool := !τ.contains .n
theorem n_in (τ : Tel) : (τ.map Wo.c).contains 110 = τ.contains .n := by
  induction τ with
  | nil => rfl
  | cons w τ ih =>
    rw [List.map_cons, List.contains_cons, List.contains_cons, ih]
    cases w <;> rfl
theorem n_notIn (τ : Tel) : dNotIn (.str [110]) (tx τ) = .ok (.bl τ.whole) := by
  unfold tx Tel.whole
  rw [← n_in]
  rfl
theorem n_notIn' (τ : Tel) : dNotIn (.str [110]) (.str (τ.map Wo.c)) = .ok (.bl τ.whole) := n_notIn τ
theorem whole_ones_eq (b : Bk) (hb : b.ok) : p_whole_ones [bk b] = .ok (.lst ((b.all.filter Tel.whole).map tx)) := by
  have hl := all_len2 b hb
  have hc : comp (src (callE p_all_of (acons (var 0) anil))) [1] (gSet 1) (tstB (bin dNotIn (con (.str [110])) (var 1))) (var 1) [.pl (bk b), .dead] = .ok (.lst ((b.all.filter Tel.whole).map tx)) :=
    comp_of tx b.all Tel.whole tx (by simp [all_of_eq b hb]) (by omega) (fun τ _ => by simp [n_notIn, -dNotIn]) (fun τ _ _ => by simp)
  simp [p_whole_ones, look_eq b hb, hc, -comp]
/-! highest ones -/
def Bk.highs (b : Bk) : List Tel := b.all.filter fun τ => (b.all.filter fun υ => decide (υ ≠ τ) && bel τ υ).isEmpty
theorem tx_ne (σ τ : Tel) : dNe (tx σ) (tx τ) = .ok (.bl (decide (σ ≠ τ))) := by
  have := tx_beq σ τ
  unfold tx
  simp [this]
theorem tx_eq (σ τ : Tel) : dEq (tx σ) (tx τ) = .ok (.bl (decide (σ = τ))) := by
  have := tx_beq σ τ
  unfold tx
  simp [this]
theorem highest_eq (b : Bk) (hb : b.ok) : p_highest [bk b] = .ok (.lst (b.highs.map tx)) := by
  have hl := all_len2 b hb
  have hb6 := hb.six
  have hi : ∀ (τ : Tel), τ ∈ b.all → ∀ s3, comp (src (var 1)) [3] (gSet 3) (andT (tstB (bin dNe (var 3) (var 2))) (tst (callE p_lies_below (acons (var 2) (acons (var 3) anil))))) (var 3) [.pl (bk b), .pl (.lst (b.all.map tx)), .pl (tx τ), s3] =
      .ok (.lst ((b.all.filter fun υ => decide (υ ≠ τ) && bel τ υ).map tx)) := fun τ hτ s3 => by
    have h1 := steady_len (mem_all.mp hτ)
    refine comp_var tx b.all (fun υ => decide (υ ≠ τ) && bel τ υ) tx rfl (by omega) (fun υ _ => ?_) (fun υ _ _ => by simp)
    have e1 := tx_ne υ τ
    have e2 := below_eq τ υ (by omega)
    cases hq : decide (υ ≠ τ) <;> simp [e1, e2, hq, -dNe] <;> simp at hq <;> simp [hq]
  have hc : comp (src (var 1)) [2] (gSet 2) (notT (tst (comp (src (var 1)) [3] (gSet 3) (andT (tstB (bin dNe (var 3) (var 2))) (tst (callE p_lies_below (acons (var 2) (acons (var 3) anil))))) (var 3)))) (var 2) [.pl (bk b), .pl (.lst (b.all.map tx)), .dead, .dead] = .ok (.lst (b.highs.map tx)) :=
    comp_var tx b.all (fun τ => (b.all.filter fun υ => decide (υ ≠ τ) && bel τ υ).isEmpty) tx rfl (by omega) (fun τ hτ => by simp [hi τ hτ, -comp]) (fun υ _ _ => by simp)
  simp [p_highest, look_eq b hb, all_of_eq b hb, hc, -comp]
/-! going together -/
theorem together_eq (σ τ : Tel) (hs : σ.length ≤ 1000) : p_go_together [tx σ, tx τ] = .ok (.bl (tog σ τ)) := by
  have hz : (σ.zip τ).length ≤ 16777216 := by rw [List.length_zip]; omega
  have hk := compM_ok (T := fun p : Wo × Wo => if (!p.1.c == 110 && !p.2.c == 110) = true then Res.ok (!p.1.c == p.2.c) else Res.ok false) (Y := fun _ => Res.ok (D.int 1)) (fun p : Wo × Wo => !p.1.comp p.2) (fun _ => D.int 1) (l := σ.zip τ)
    (fun p hp => by cases p with | mk x y => cases x <;> cases y <;> rfl) (fun _ _ _ => rfl)
  have eb : tog σ τ = ((σ.zip τ).filter fun p => !p.1.comp p.2).isEmpty := by
    unfold tog
    rw [Bool.eq_iff_iff, List.all_eq_true, List.isEmpty_iff, List.filter_eq_nil_iff]
    simp
  simp at hz
  rw [eb]
  simp [p_go_together, tx]
  simp at hk
  simp [hk, hz]
def Bk.kin (b : Bk) : List Tel := b.all.filter fun τ => (b.all.filter fun υ => !tog τ υ).isEmpty
theorem mem_kin {b : Bk} {τ : Tel} : τ ∈ b.kin ↔ b.intr τ := by
  unfold Bk.kin
  rw [List.mem_filter, mem_all, List.isEmpty_iff, List.filter_eq_nil_iff]
  constructor
  · intro ⟨h1, h2⟩
    exact ⟨h1, fun υ hu => by simpa using h2 υ (mem_all.mpr hu)⟩
  · intro h
    exact ⟨h.1, fun υ hu => by simpa using h.2 υ (mem_all.mp hu)⟩
/-- the settled one -/
def isTop (b : Bk) (τ : Tel) : Bool := (b.kin.filter fun υ => !bel υ τ).isEmpty
def Bk.setl (b : Bk) : Tel := (b.kin.find? (isTop b)).getD []
theorem setl_find (b : Bk) : b.kin.find? (isTop b) = some b.setl := by
  obtain ⟨σ, h1, h2⟩ := intr_top b
  have : ∃ x, b.kin.find? (isTop b) = some x := by
    cases hq : b.kin.find? (isTop b) with
    | some x => exact ⟨x, rfl⟩
    | none =>
      exfalso
      have := List.find?_eq_none.mp hq σ (mem_kin.mpr h1)
      apply this
      unfold isTop
      rw [List.isEmpty_iff, List.filter_eq_nil_iff]
      intro υ hu
      simp [h2 υ (mem_kin.mp hu)]
  obtain ⟨x, hx⟩ := this
  unfold Bk.setl
  rw [hx]
  rfl
theorem setl_intr (b : Bk) : b.intr b.setl := mem_kin.mp (List.mem_of_find?_eq_some (setl_find b))
theorem setl_top (b : Bk) {τ : Tel} (h : b.intr τ) : bel τ b.setl = true := by
  have := List.find?_some (setl_find b)
  unfold isTop at this
  rw [List.isEmpty_iff, List.filter_eq_nil_iff] at this
  simpa using this τ (mem_kin.mpr h)
theorem setl_uniq (b : Bk) {σ : Tel} (h : b.intr σ) (k : ∀ τ, b.intr τ → bel τ σ = true) : b.setl = σ :=
  bel_anti (by rw [steady_len (setl_intr b).1, steady_len h.1]) (k _ (setl_intr b)) (setl_top b h)
/-- a loop that returns at the first that passes -/
theorem forL_first {α : Type} (F : α → D) (P : α → Bool) (I : Env → Prop) {f : D → Env → Out} (R : α → D) : ∀ (l : List α) (ρ : Env), I ρ → (∀ x ∈ l, ∀ ρ, I ρ → if P x = true then f (F x) ρ = .rt (R x) else ∃ ρ', f (F x) ρ = .nx ρ' ∧ I ρ') →
    ∀ x, l.find? P = some x → forL f (l.map F) ρ = .rt (R x)
  | [], _, _, _, _, h => by cases h
  | y :: l, ρ, hI, st, x, h => by
    rw [List.map_cons]
    unfold forL
    have h0 := st y List.mem_cons_self ρ hI
    rw [List.find?_cons] at h
    cases hp : P y with
    | true =>
      rw [hp] at h h0
      rw [if_pos rfl] at h0
      cases h
      rw [h0]
    | false =>
      rw [hp] at h h0
      rw [if_neg Bool.false_ne_true] at h0
      obtain ⟨ρ', e, hI'⟩ := h0
      rw [e]
      exact forL_first F P I R l ρ' hI' (fun x hx => st x (List.mem_cons_of_mem _ hx)) x h
theorem kin_len (b : Bk) (hb : b.ok) : b.kin.length ≤ 729 := Nat.le_trans (List.length_filter_le _ _) (all_len2 b hb)
theorem settled_eq (b : Bk) (hb : b.ok) : p_settled [bk b] = .ok (tx b.setl) := by
  have hl := all_len2 b hb
  have hkl := kin_len b hb
  have hb6 := hb.six
  have hi : ∀ (τ : Tel), τ ∈ b.all → ∀ s2 s4, comp (src (var 1)) [4] (gSet 4) (notT (tst (callE p_go_together (acons (var 3) (acons (var 4) anil))))) (var 4) [.pl (bk b), .pl (.lst (b.all.map tx)), s2, .pl (tx τ), s4] =
      .ok (.lst ((b.all.filter fun υ => !tog τ υ).map tx)) := fun τ hτ s2 s4 => by
    have h1 := steady_len (mem_all.mp hτ)
    refine comp_var tx b.all (fun υ => !tog τ υ) tx rfl (by omega) (fun υ _ => ?_) (fun υ _ _ => by simp)
    have e2 := together_eq τ υ (by omega)
    simp [e2]
  have hc : comp (src (var 1)) [3] (gSet 3) (notT (tst (comp (src (var 1)) [4] (gSet 4) (notT (tst (callE p_go_together (acons (var 3) (acons (var 4) anil))))) (var 4)))) (var 3) [.pl (bk b), .pl (.lst (b.all.map tx)), .dead, .dead, .dead] = .ok (.lst (b.kin.map tx)) :=
    comp_var tx b.all (fun τ => (b.all.filter fun υ => !tog τ υ).isEmpty) tx rfl (by omega) (fun τ hτ => by simp [hi τ hτ, -comp]) (fun υ _ _ => by simp)
  have hk : ∀ (τ : Tel), τ ∈ b.kin → ∀ s4, comp (src (var 2)) [4] (gSet 4) (notT (tst (callE p_lies_below (acons (var 4) (acons (var 3) anil))))) (var 4) [.pl (bk b), .pl (.lst (b.all.map tx)), .pl (.lst (b.kin.map tx)), .pl (tx τ), s4] =
      .ok (.lst ((b.kin.filter fun υ => !bel υ τ).map tx)) := fun τ hτ s4 => by
    refine comp_var tx b.kin (fun υ => !bel υ τ) tx rfl (by omega) (fun υ hu => ?_) (fun υ _ _ => by simp)
    have h1 := steady_len (mem_kin.mp hu).1
    have e2 := below_eq υ τ (by omega)
    simp [e2]
  have hf := forL_first (f := forF (gSet 3) p_settled_b0) tx (isTop b) (fun ρ => ∃ s3 s4, ρ = [.pl (bk b), .pl (.lst (b.all.map tx)), .pl (.lst (b.kin.map tx)), s3, s4]) tx b.kin
    [.pl (bk b), .pl (.lst (b.all.map tx)), .pl (.lst (b.kin.map tx)), .dead, .dead] ⟨_, _, rfl⟩ (fun τ hτ ρ hI => by
    obtain ⟨s3, s4, rfl⟩ := hI
    unfold isTop
    cases hq : (b.kin.filter fun υ => !bel υ τ).isEmpty with
    | true => simp [forF, p_settled_b0, hk τ hτ, -comp, hq]
    | false => simp [forF, p_settled_b0, hk τ hτ, -comp, hq]) _ (setl_find b)
  simp [p_settled, look_eq b hb, all_of_eq b hb, hc, -comp, hf]
end SR

set_option linter.all false
set_option autoImplicit false
set_option Elab.async false
set_option maxRecDepth 100000
/-! Th9: sayings of any depth, what is a book; sorted rows. -/
namespace SR
@[simp] def Sy.deep : Sy → Nat
  | .yes => 1
  | .no => 1
  | .says _ => 1
  | .neg a => a.deep + 1
  | .and a b => max a.deep b.deep + 1
  | .or a b => max a.deep b.deep + 1
  | .many _ _ _ => 1
@[simp] def Sy.wf (m : Nat) : Sy → Prop
  | .yes => True
  | .no => True
  | .says i => i < m
  | .neg a => a.wf m
  | .and a b => a.wf m ∧ b.wf m
  | .or a b => a.wf m ∧ b.wf m
  | .many lo hi row => lo ≤ hi ∧ hi ≤ m ∧ (∀ r ∈ row, r < m) ∧ row.Pairwise (· < ·)
theorem ok_iff (m : Nat) : ∀ (k : Nat) (s : Sy), s.ok m k ↔ s.wf m ∧ s.deep ≤ k
  | 0, s => ⟨fun h => h.elim, fun h => by have := h.2; cases s <;> simp at this⟩
  | k + 1, s => by
    cases s with
    | yes => simp [Sy.ok]
    | no => simp [Sy.ok]
    | says i => simp [Sy.ok]
    | neg a => simp only [Sy.ok, Sy.wf, Sy.deep, ok_iff m k a]; exact ⟨fun h => ⟨h.1, by omega⟩, fun h => ⟨h.1, by omega⟩⟩
    | and a b => simp only [Sy.ok, Sy.wf, Sy.deep, ok_iff m k a, ok_iff m k b]; exact ⟨fun h => ⟨⟨h.1.1, h.2.1⟩, by omega⟩, fun h => ⟨⟨h.1.1, by omega⟩, h.1.2, by omega⟩⟩
    | or a b => simp only [Sy.ok, Sy.wf, Sy.deep, ok_iff m k a, ok_iff m k b]; exact ⟨fun h => ⟨⟨h.1.1, h.2.1⟩, by omega⟩, fun h => ⟨⟨h.1.1, by omega⟩, h.1.2, by omega⟩⟩
    | many lo hi row => simp [Sy.ok]
/-- whether a saying is not too deep -/
theorem saying_dec (m : Nat) (hm : m ≤ 100) : ∀ (k n : Nat) (s : Sy), s.wf m → k < n → p_is_saying n [.int m, s.d, .int k] = .ok (.bl (decide (s.deep ≤ k)))
  | 0, 0, _, _, h => absurd h (by omega)
  | k + 1, 0, _, _, h => absurd h (by omega)
  | 0, n + 1, s, _, _ => by cases s <;> simp [p_is_saying]
  | k + 1, n + 1, s, h, hk => by
    by_cases hd : s.deep ≤ k + 1
    · rw [saying_eq m hm (k + 1) (n + 1) s ((ok_iff m (k + 1) s).mpr ⟨h, hd⟩) (by omega), decide_eq_true hd]
    · have hk0 : ¬ ((k : Int) + 1 = 0) := by omega
      rw [decide_eq_false hd]
      cases s with
      | yes => simp at hd
      | no => simp at hd
      | says i => simp at hd
      | many lo hi row => simp at hd
      | neg a =>
        have := saying_dec m hm k n a h (by omega)
        rw [decide_eq_false (by simp at hd; omega)] at this
        simp [p_is_saying, hk0, t_SIZES, lookT, this, compM]
      | and a b =>
        have h1 := saying_dec m hm k n a h.1 (by omega)
        have h2 := saying_dec m hm k n b h.2 (by omega)
        by_cases q : a.deep ≤ k
        · rw [decide_eq_true q] at h1
          rw [decide_eq_false (by simp at hd; omega)] at h2
          simp [p_is_saying, hk0, t_SIZES, lookT, h1, h2, compM]
        · rw [decide_eq_false q] at h1
          cases q2 : decide (b.deep ≤ k) <;> rw [q2] at h2 <;> simp [p_is_saying, hk0, t_SIZES, lookT, h1, h2, compM]
      | or a b =>
        have h1 := saying_dec m hm k n a h.1 (by omega)
        have h2 := saying_dec m hm k n b h.2 (by omega)
        by_cases q : a.deep ≤ k
        · rw [decide_eq_true q] at h1
          rw [decide_eq_false (by simp at hd; omega)] at h2
          simp [p_is_saying, hk0, t_SIZES, lookT, h1, h2, compM]
        · rw [decide_eq_false q] at h1
          cases q2 : decide (b.deep ≤ k) <;> rw [q2] at h2 <;> simp [p_is_saying, hk0, t_SIZES, lookT, h1, h2, compM]
theorem wf_mono {m m' : Nat} : ∀ (s : Sy), m ≤ m' → s.wf m → s.wf m'
  | .yes, _, _ => trivial
  | .no, _, _ => trivial
  | .says i, h, k => Nat.lt_of_lt_of_le k h
  | .neg a, h, k => wf_mono a h k
  | .and a b, h, k => ⟨wf_mono a h k.1, wf_mono b h k.2⟩
  | .or a b, h, k => ⟨wf_mono a h k.1, wf_mono b h k.2⟩
  | .many lo hi row, h, k => ⟨k.1, Nat.le_trans k.2.1 h, fun r hr => Nat.lt_of_lt_of_le (k.2.2.1 r hr) h, k.2.2.2⟩
structure Bk.wf (b : Bk) : Prop where
  pos : 1 ≤ b.length
  six : b.length ≤ 6
  all : ∀ s ∈ b, s.wf b.length
def Bk.shal (b : Bk) : Bool := List.all b fun s => decide (s.deep ≤ 4)
theorem wf_of {b : Bk} (h : b.ok) : b.wf := ⟨h.pos, h.six, fun s hs => ((ok_iff _ _ s).mp (h.all s hs)).1⟩
theorem ok_of_wf {b : Bk} (h : b.wf) (k : b.shal = true) : b.ok := ⟨h.pos, h.six, fun s hs => (ok_iff _ _ s).mpr ⟨h.all s hs, by
  unfold Bk.shal at k
  rw [List.all_eq_true] at k
  simpa using k s hs⟩⟩
theorem book_dec (b : Bk) (h : b.wf) : p_is_book [bk b] = .ok (.bl b.shal) := by
  have h1 := h.pos
  have h2 := h.six
  have q : (1 : Int) ≤ b.length := by omega
  have q2 : (b.length : Int) ≤ 6 := by omega
  have q3 : b.length ≤ 16777216 := by omega
  have hc : comp (src (var 0)) [1] (gSet 1) (notT (tst (callE (p_is_saying 6) (acons (un dLen (var 0)) (acons (var 1) (acons (con (.int 4)) anil)))))) (var 1) [.pl (.tup (b.map Sy.d)), .dead] = .ok (.lst ((List.filter (fun s : Sy => !decide (s.deep ≤ 4)) b).map Sy.d)) :=
    comp_src Sy.d b (fun s => !decide (s.deep ≤ 4)) Sy.d rfl q3 (fun s hs => by
      have := saying_dec b.length (by omega) 4 6 s (h.all s hs) (by omega)
      simp at this
      simp [this]) (fun _ _ _ => rfl)
  have he : b.shal = (List.filter (fun s : Sy => !decide (s.deep ≤ 4)) b).isEmpty := by
    unfold Bk.shal
    rw [Bool.eq_iff_iff, List.all_eq_true, List.isEmpty_iff, List.filter_eq_nil_iff]
    simp
  rw [he]
  simp [p_is_book, bk, q, q2, hc, -comp]
/-! rows that rise -/
theorem tlt_irr (σ : Tel) : ¬ tlt σ σ := fun h => List.lt_irrefl _ h
theorem tlt_asy {σ τ : Tel} (h : tlt σ τ) (k : tlt τ σ) : False := List.lt_irrefl _ (List.lt_trans h k)
theorem rise_ext : ∀ {l m : List Tel}, l.Pairwise tlt → m.Pairwise tlt → (∀ τ, τ ∈ l ↔ τ ∈ m) → l = m
  | [], [], _, _, _ => rfl
  | [], y :: m, _, _, h => absurd ((h y).mpr List.mem_cons_self) (fun z => nomatch z)
  | x :: l, [], _, _, h => absurd ((h x).mp List.mem_cons_self) (fun z => nomatch z)
  | x :: l, y :: m, hl, hm, h => by
    obtain ⟨l1, l2⟩ := List.pairwise_cons.mp hl
    obtain ⟨m1, m2⟩ := List.pairwise_cons.mp hm
    have e : x = y := by
      rcases List.mem_cons.mp ((h x).mp List.mem_cons_self) with e | e
      · exact e
      · rcases List.mem_cons.mp ((h y).mpr List.mem_cons_self) with e2 | e2
        · exact e2.symm
        · exact (tlt_asy (m1 x e) (l1 y e2)).elim
    subst e
    have := rise_ext l2 m2 fun τ => by
      have := h τ
      constructor
      · intro hτ
        rcases List.mem_cons.mp (this.mp (List.mem_cons_of_mem _ hτ)) with e | e
        · subst e; exact (tlt_irr _ (l1 _ hτ)).elim
        · exact e
      · intro hτ
        rcases List.mem_cons.mp (this.mpr (List.mem_cons_of_mem _ hτ)) with e | e
        · subst e; exact (tlt_irr _ (m1 _ hτ)).elim
        · exact e
    rw [this]
/-- two books with the same steady tellings -/
theorem all_ext {a b : Bk} (h : ∀ τ, a.next τ = τ ↔ b.next τ = τ) : a.all = b.all := rise_ext (all_rise a) (all_rise b) fun τ => by rw [mem_all, mem_all]; exact h τ
/-! rows sorted -/
def tleB (σ τ : Tel) : Bool := !decide (τ.map Wo.c < σ.map Wo.c)
def srt (l : List Tel) : List Tel := l.mergeSort tleB
theorem srt_mem {l : List Tel} {τ : Tel} : τ ∈ srt l ↔ τ ∈ l := List.mem_mergeSort
theorem srt_len (l : List Tel) : (srt l).length = l.length := List.length_mergeSort l
theorem lay_tx (τ : Tel) : (tx τ).lay = true := by
  unfold tx D.lay
  rw [List.all_eq_true]
  intro c hc
  obtain ⟨w, _, rfl⟩ := List.mem_map.mp hc
  cases w <;> rfl
theorem sortOk_rows (l : List Tel) (h : l.length ≤ 100000) : sortOk (l.map tx) = true := by
  unfold sortOk
  have a1 : ((l.map tx).all fun x => x.lay && decide (x.dep ≤ 8)) = true := by
    rw [List.all_eq_true]
    intro x hx
    obtain ⟨τ, _, rfl⟩ := List.mem_map.mp hx
    rw [lay_tx]
    rfl
  have a2 : ((l.map tx).all fun a => (l.map tx).all fun b => D.alk a b) = true := by
    rw [List.all_eq_true]
    intro x hx
    obtain ⟨τ, _, rfl⟩ := List.mem_map.mp hx
    rw [List.all_eq_true]
    intro y hy
    obtain ⟨υ, _, rfl⟩ := List.mem_map.mp hy
    unfold tx D.alk
    rfl
  have a3 : (l.map tx).all D.noT = true := by
    rw [List.all_eq_true]
    intro x hx
    obtain ⟨τ, _, rfl⟩ := List.mem_map.mp hx
    rfl
  rw [a1, a2, a3]
  simp [h]
theorem sort_rows (l : List Tel) (h : l.length ≤ 100000) : dSort (.lst (l.map tx)) = .ok (.lst ((srt l).map tx)) := by
  unfold dSort
  simp only [sortOk_rows l h, if_true]
  unfold srt
  rw [List.map_mergeSort]
  intro a _ b _
  unfold D.leV tleB tx D.ltv
  rfl
theorem tleB_iff {σ τ : Tel} : tleB σ τ = true ↔ ¬ tlt τ σ := by unfold tleB tlt; simp
theorem tlt_or {σ τ : Tel} (h : ¬ tlt τ σ) : tlt σ τ ∨ σ = τ := by
  unfold tlt at h ⊢
  rcases List.le_iff_lt_or_eq.mp h with h | h
  · exact .inl h
  · exact .inr (tx_inj.mp h)
theorem srt_sorted (l : List Tel) : (srt l).Pairwise fun a b => tleB a b = true := by
  refine List.pairwise_mergeSort (fun a b c h1 h2 => ?_) (fun a b => ?_) l
  · rw [tleB_iff] at *
    exact fun h => by
      rcases tlt_or h1 with q | q
      · rcases tlt_or h2 with q2 | q2
        · exact tlt_asy (List.lt_trans q q2) h
        · subst q2; exact h2.elim (by exact (h1 h).elim)
      · subst q; exact h2 h
  · rw [Bool.or_eq_true, tleB_iff, tleB_iff]
    by_cases q : tlt b a
    · exact .inr fun h => tlt_asy h q
    · exact .inl q
/-- sorted rows of which none comes twice rise -/
theorem srt_rise {l : List Tel} (h : l.Nodup) : (srt l).Pairwise tlt := by
  have h1 := srt_sorted l
  have h2 : (srt l).Nodup := (List.mergeSort_perm l tleB).nodup_iff.mpr h
  have h3 := List.Pairwise.and h1 h2
  exact h3.imp fun {a b} ⟨q1, q2⟩ => by
    rcases tlt_or (tleB_iff.mp q1) with z | z
    · exact z
    · exact absurd z q2
/-- equal lists of rows -/
theorem rows_deq : ∀ l m : List Tel, D.eqs (l.map tx) (m.map tx) = decide (l = m)
  | [], [] => by simp
  | [], _ :: _ => by simp
  | _ :: _, [] => by simp
  | x :: l, y :: m => by
    rw [List.map_cons, List.map_cons, deqs_cons, rows_deq l m]
    have := tx_beq x y
    unfold tx
    rw [deq_str_str, this]
    by_cases h : x = y <;> by_cases k : l = m <;> simp [h, k]
theorem rows_eq (l m : List Tel) : dEq (.lst (l.map tx)) (.lst (m.map tx)) = .ok (.bl (decide (l = m))) := by
  have h1 := good_rows l
  have h2 := good_rows m
  have h3 := rows_deq l m
  simp [h1, h2, h3]
theorem rows_ne2 (l m : List Tel) : dNe (.lst (l.map tx)) (.lst (m.map tx)) = .ok (.bl (!decide (l = m))) := by
  have h1 := good_rows l
  have h2 := good_rows m
  have h3 := rows_deq l m
  simp [h1, h2, h3]
/-! alike, parts -/
theorem len_bk (b : Bk) (h : b.length ≤ 6) : dLen (bk b) = .ok (.int b.length) := by
  have : b.length ≤ 16777216 := by omega
  simp [bk, this]
theorem alike_eq (a b : Bk) (ha : a.ok) (hb : b.ok) (hl : a.length = b.length) : p_alike [bk a, bk b] = .ok (.bl (decide (a.all = b.all))) := by
  have r := rows_eq a.all b.all
  simp [p_alike, look_eq a ha, look_eq b hb, len_bk a ha.six, len_bk b hb.six, hl, all_of_eq a ha, all_of_eq b hb, r, -dLen, -dEq]
theorem alike_rs (a b : Bk) (ha : a.ok) (hb : b.ok) (hl : a.length ≠ b.length) : p_alike [bk a, bk b] = .rs .unlike := by
  have this : ((a.length : Int) == b.length) = false := by rw [beq_eq_false_iff_ne]; omega
  simp [p_alike, look_eq a ha, look_eq b hb, len_bk a ha.six, len_bk b hb.six, this, -dLen]
theorem parts_rs (a b : Bk) (ha : a.ok) (hb : b.ok) (hl : a.length ≠ b.length) : p_parts [bk a, bk b] = .rs .unlike := by
  have this : ((a.length : Int) == b.length) = false := by rw [beq_eq_false_iff_ne]; omega
  simp [p_parts, look_eq a ha, look_eq b hb, len_bk a ha.six, len_bk b hb.six, this, -dLen]
/-- what is steady in just one -/
def partL (a b : Bk) : List Tel := srt ((a.all.filter fun τ => !decide (τ ∈ b.all)) ++ (b.all.filter fun τ => !decide (τ ∈ a.all)))
def headD (l : List Tel) : D := match l with
  | [] => .non
  | x :: _ => tx x
theorem parts_eq (a b : Bk) (ha : a.ok) (hb : b.ok) (hl : a.length = b.length) : p_parts [bk a, bk b] = .ok (headD (partL a b)) := by
  have h1 := all_len2 a ha
  have h2 := all_len2 b hb
  have c1 : comp (src (var 2)) [5] (gSet 5) (tstB (bin dNotIn (var 5) (var 3))) (var 5) [.pl (bk a), .pl (bk b), .pl (.lst (a.all.map tx)), .pl (.lst (b.all.map tx)), .dead, .dead] = .ok (.lst ((a.all.filter fun τ => !decide (τ ∈ b.all)).map tx)) :=
    comp_var tx a.all _ tx rfl (by omega) (fun τ _ => by simp [rows_in, -dIn]) (fun _ _ _ => rfl)
  have c2 : comp (src (var 3)) [5] (gSet 5) (tstB (bin dNotIn (var 5) (var 2))) (var 5) [.pl (bk a), .pl (bk b), .pl (.lst (a.all.map tx)), .pl (.lst (b.all.map tx)), .dead, .dead] = .ok (.lst ((b.all.filter fun τ => !decide (τ ∈ a.all)).map tx)) :=
    comp_var tx b.all _ tx rfl (by omega) (fun τ _ => by simp [rows_in, -dIn]) (fun _ _ _ => rfl)
  have f1 := List.length_filter_le (fun τ => !decide (τ ∈ b.all)) a.all
  have f2 := List.length_filter_le (fun τ => !decide (τ ∈ a.all)) b.all
  have hs := sort_rows ((a.all.filter fun τ => !decide (τ ∈ b.all)) ++ (b.all.filter fun τ => !decide (τ ∈ a.all))) (by rw [List.length_append]; omega)
  have hadd : dAdd (.lst ((a.all.filter fun τ => !decide (τ ∈ b.all)).map tx)) (.lst ((b.all.filter fun τ => !decide (τ ∈ a.all)).map tx)) = .ok (.lst (((a.all.filter fun τ => !decide (τ ∈ b.all)) ++ (b.all.filter fun τ => !decide (τ ∈ a.all))).map tx)) := by
    have : (a.all.filter fun τ => !decide (τ ∈ b.all)).length + (b.all.filter fun τ => !decide (τ ∈ a.all)).length ≤ 16777216 := by omega
    unfold dAdd
    simp only [List.length_map, line_val, if_pos this, List.map_append]
  have hp : srt ((a.all.filter fun τ => !decide (τ ∈ b.all)) ++ (b.all.filter fun τ => !decide (τ ∈ a.all))) = partL a b := rfl
  rw [hp, List.map_append] at hs
  simp [p_parts, look_eq a ha, look_eq b hb, len_bk a ha.six, len_bk b hb.six, hl, all_of_eq a ha, all_of_eq b hb, c1, c2, hadd, hs, -dLen, -comp, -dAdd]
  cases partL a b with
  | nil => simp [headD]
  | cons x l => simp [headD]
theorem part_nil (a b : Bk) : partL a b = [] ↔ a.all = b.all := by
  constructor
  · intro h
    have h0 : ∀ τ, τ ∉ partL a b := fun τ => by rw [h]; exact fun z => nomatch z
    refine rise_ext (all_rise a) (all_rise b) fun τ => ?_
    have := h0 τ
    unfold partL at this
    rw [srt_mem, List.mem_append, List.mem_filter, List.mem_filter] at this
    simp at this
    exact ⟨fun q => this.1 q, fun q => this.2 q⟩
  · intro h
    apply List.eq_nil_iff_forall_not_mem.mpr
    intro τ
    unfold partL
    rw [srt_mem, h]
    simp
end SR

set_option linter.all false
set_option autoImplicit false
set_option Elab.async false
set_option maxRecDepth 100000
/-! Q8: places in a book, books with another saying. -/
namespace SR
theorem at_mod (c : Int) (m : Nat) (hm : 1 ≤ m) : ∃ i : Nat, i < m ∧ c % (m : Int) = (i : Int) := mod_nat c m (by omega)
/-- the book with another saying at i -/
def Bk.put (b : Bk) (i : Nat) (y : Sy) : Bk := b.take i ++ [y] ++ b.drop (i + 1)
theorem put_len (b : Bk) (i : Nat) (hi : i < b.length) (y : Sy) : (b.put i y).length = b.length := by
  unfold Bk.put
  simp
  omega
theorem mem_put {b : Bk} {i : Nat} {y s : Sy} (h : s ∈ b.put i y) : s = y ∨ s ∈ b := by
  unfold Bk.put at h
  rcases List.mem_append.mp h with h | h
  · rcases List.mem_append.mp h with h | h
    · exact .inr (List.mem_of_mem_take h)
    · exact .inl (List.mem_singleton.mp h)
  · exact .inr (List.mem_of_mem_drop h)
theorem put_wf (b : Bk) (hb : b.wf) (i : Nat) (hi : i < b.length) (y : Sy) (hy : y.wf b.length) : (b.put i y).wf := by
  have hl := put_len b i hi y
  refine ⟨by rw [hl]; exact hb.pos, by rw [hl]; exact hb.six, fun s hs => ?_⟩
  rw [hl]
  rcases mem_put hs with rfl | h
  · exact hy
  · exact hb.all s h
theorem dAdd_int (i j : Int) : dAdd (.int i) (.int j) = .ok (.int (i + j)) := rfl
theorem dMod_pos (i j : Int) (h : 0 < j) : dMod (.int i) (.int j) = .ok (.int (i % j)) := by simp [h]
theorem dDiv_pos (i j : Int) (h : 0 < j) (h2 : j < 1073741824) : dDiv (.int i) (.int j) = .ok (.int (i / j)) := by simp [h, h2]
theorem put_h1 (b : Bk) (i : Nat) : dCut (bk b) none (some (i : Int)) = .ok (.tup ((b.map Sy.d).take i)) := by
  simp only [bk, dCut, cut_to]
theorem put_h2 (b : Bk) (i : Nat) : dCut (bk b) (some ((i : Int) + 1)) none = .ok (.tup ((b.map Sy.d).drop (i + 1))) := by
  have e1 : (i : Int) + 1 = ((i + 1 : Nat) : Int) := by omega
  rw [e1]
  simp only [bk, dCut, cut_from]
theorem put_h3 (b : Bk) (h6 : b.length ≤ 6) (i : Nat) (d : D) : dAdd (.tup ((b.map Sy.d).take i)) (.tup [d]) = .ok (.tup ((b.map Sy.d).take i ++ [d])) := by
  have l1 : ((b.map Sy.d).take i).length + 1 ≤ 16777216 := by rw [List.length_take, List.length_map]; omega
  exact if_pos l1
theorem put_h4 (b : Bk) (h6 : b.length ≤ 6) (i : Nat) (y : Sy) : dAdd (.tup ((b.map Sy.d).take i ++ [y.d])) (.tup ((b.map Sy.d).drop (i + 1))) = .ok (bk (b.put i y)) := by
  have l2 : ((b.map Sy.d).take i).length + 1 + ((b.map Sy.d).drop (i + 1)).length ≤ 16777216 := by rw [List.length_take, List.length_drop, List.length_map]; omega
  simp only [dAdd, List.length_append, List.length_singleton, line_val, if_pos l2, bk, Bk.put, List.map_append, List.map_cons, List.map_nil, List.map_take, List.map_drop]
end SR

set_option linter.all false
set_option autoImplicit false
set_option Elab.async false
set_option maxRecDepth 100000
/-! Th10: numbers of sayings, whom a saying speaks of, worths in steady tellings, kinds. -/
namespace SR
theorem look_number_eq (b : Bk) (h6 : b.length ≤ 6) (i : Nat) (hi : i < b.length) : p_look_number [bk b, .int (i : Nat)] = .ok .non := by
  have h := within_eq i 0 ((b.length : Int) - 1)
  have h1 : (0 : Int) ≤ i := by omega
  have h2 : (i : Int) ≤ (b.length : Int) - 1 := by omega
  have hl := len_bk b h6
  simp [p_look_number, hl, h, h2, -dLen]
/-! whom a saying speaks of -/
def spk : Sy → List Nat
  | .yes => []
  | .no => []
  | .says i => [i]
  | .neg a => spk a
  | .and a b => spk a ++ spk b
  | .or a b => spk a ++ spk b
  | .many _ _ row => row
theorem spk_len (m : Nat) (hm : m ≤ 6) : ∀ (k : Nat) (s : Sy), s.ok m (k + 1) → (spk s).length ≤ 6 * 2 ^ k
  | k, s, h => by
    have hp : 1 ≤ 2 ^ k := Nat.one_le_two_pow
    cases s with
    | yes => simp [spk]
    | no => simp [spk]
    | says i => simp [spk]; omega
    | many lo hi row =>
      have := rise_len m row 0 (fun r hr => ⟨Nat.zero_le _, h.2.2.1 r hr⟩) h.2.2.2
      simp only [spk]
      omega
    | neg a =>
      cases k with
      | zero => exact h.elim
      | succ k =>
        have := spk_len m hm k a h
        simp only [spk]
        rw [Nat.pow_succ]
        omega
    | and a b =>
      cases k with
      | zero => exact h.1.elim
      | succ k =>
        have h1 := spk_len m hm k a h.1
        have h2 := spk_len m hm k b h.2
        simp only [spk, List.length_append]
        rw [Nat.pow_succ]
        omega
    | or a b =>
      cases k with
      | zero => exact h.1.elim
      | succ k =>
        have h1 := spk_len m hm k a h.1
        have h2 := spk_len m hm k b h.2
        simp only [spk, List.length_append]
        rw [Nat.pow_succ]
        omega
theorem spk_lt (m : Nat) : ∀ s : Sy, s.wf m → ∀ j ∈ spk s, j < m
  | .yes, _, j, h => by simp [spk] at h
  | .no, _, j, h => by simp [spk] at h
  | .says i, k, j, h => by simp [spk] at h; rw [h]; exact k
  | .neg a, k, j, h => spk_lt m a k j h
  | .and a b, k, j, h => by
    simp only [spk, List.mem_append] at h
    rcases h with h | h
    · exact spk_lt m a k.1 j h
    · exact spk_lt m b k.2 j h
  | .or a b, k, j, h => by
    simp only [spk, List.mem_append] at h
    rcases h with h | h
    · exact spk_lt m a k.1 j h
    · exact spk_lt m b k.2 j h
  | .many lo hi row, k, j, h => k.2.2.1 j h
theorem spoken_eq (m : Nat) (hm : m ≤ 6) : ∀ (k n : Nat) (s : Sy), s.ok m k → k ≤ n → k ≤ 4 → p_spoken n [s.d] = .ok (.lst (nums (spk s)))
  | 0, _, _, h, _, _ => h.elim
  | k + 1, 0, _, _, h, _ => absurd h (by omega)
  | k + 1, n + 1, s, h, hk, h4 => by
    cases s with
    | yes => simp [p_spoken, spk, forL]
    | no => simp [p_spoken, spk, forL]
    | says i => simp [p_spoken, spk]
    | many lo hi row => simp [p_spoken, spk]
    | neg a =>
      have h1 := spoken_eq m hm k n a h (by omega) (by omega)
      cases k with
      | zero => exact h.elim
      | succ k =>
        have hl := spk_len m hm k a h
        have hp : 2 ^ k ≤ 2 ^ 3 := Nat.pow_le_pow_right (by decide) (by omega)
        have hl2 : (spk a).length ≤ 16777216 := by omega
        simp at h1
        simp [p_spoken, spk, forL, forF, p_spoken_b0, h1, hl2]
    | and a b =>
      have h1 := spoken_eq m hm k n a h.1 (by omega) (by omega)
      have h2 := spoken_eq m hm k n b h.2 (by omega) (by omega)
      cases k with
      | zero => exact h.1.elim
      | succ k =>
        have hl := spk_len m hm k a h.1
        have hl' := spk_len m hm k b h.2
        have hp : 2 ^ k ≤ 2 ^ 3 := Nat.pow_le_pow_right (by decide) (by omega)
        have hl2 : (spk a).length ≤ 16777216 := by omega
        have hl3 : (spk a).length + (spk b).length ≤ 16777216 := by omega
        simp at h1 h2
        simp [p_spoken, spk, forL, forF, p_spoken_b0, h1, h2, hl2, hl3]
    | or a b =>
      have h1 := spoken_eq m hm k n a h.1 (by omega) (by omega)
      have h2 := spoken_eq m hm k n b h.2 (by omega) (by omega)
      cases k with
      | zero => exact h.1.elim
      | succ k =>
        have hl := spk_len m hm k a h.1
        have hl' := spk_len m hm k b h.2
        have hp : 2 ^ k ≤ 2 ^ 3 := Nat.pow_le_pow_right (by decide) (by omega)
        have hl2 : (spk a).length ≤ 16777216 := by omega
        have hl3 : (spk a).length + (spk b).length ≤ 16777216 := by omega
        simp at h1 h2
        simp [p_spoken, spk, forL, forF, p_spoken_b0, h1, h2, hl2, hl3]
/-- reached from i in one or more steps -/
inductive Rch (b : Bk) (i : Nat) : Nat → Prop
  | one {j : Nat} : j ∈ spk (b.at i) → Rch b i j
  | more {j k : Nat} : Rch b i j → k ∈ spk (b.at j) → Rch b i k
theorem rch_lt {b : Bk} (hb : b.wf) {i j : Nat} (hi : i < b.length) (h : Rch b i j) : j < b.length := by
  have at_wf : ∀ {j : Nat}, j < b.length → (b.at j).wf b.length := fun {j} hj => by
    unfold Bk.at
    rw [List.getD_eq_getElem?_getD, List.getElem?_eq_getElem hj]
    exact hb.all _ (List.getElem_mem hj)
  induction h with
  | one h => exact spk_lt _ _ (at_wf hi) _ h
  | more _ h ih => exact spk_lt _ _ (at_wf ih) _ h
open Classical in
/-- whom a saying reaches, rising -/
noncomputable def rchL (b : Bk) (i : Nat) : List Nat := (List.range b.length).filter fun j => decide (Rch b i j)
theorem mem_rchL {b : Bk} (hb : b.wf) {i j : Nat} (hi : i < b.length) : j ∈ rchL b i ↔ Rch b i j := by
  unfold rchL
  rw [List.mem_filter, List.mem_range]
  simp
  exact rch_lt hb hi
theorem rchL_rise (b : Bk) (i : Nat) : (rchL b i).Pairwise (· < ·) := List.Pairwise.filter _ List.pairwise_lt_range
theorem nat_rise_ext : ∀ {l m : List Nat}, l.Pairwise (· < ·) → m.Pairwise (· < ·) → (∀ i, i ∈ l ↔ i ∈ m) → l = m
  | [], [], _, _, _ => rfl
  | [], y :: m, _, _, h => absurd ((h y).mpr List.mem_cons_self) (fun z => nomatch z)
  | x :: l, [], _, _, h => absurd ((h x).mp List.mem_cons_self) (fun z => nomatch z)
  | x :: l, y :: m, hl, hm, h => by
    obtain ⟨l1, l2⟩ := List.pairwise_cons.mp hl
    obtain ⟨m1, m2⟩ := List.pairwise_cons.mp hm
    have e : x = y := by
      rcases List.mem_cons.mp ((h x).mp List.mem_cons_self) with e | e
      · exact e
      · rcases List.mem_cons.mp ((h y).mpr List.mem_cons_self) with e2 | e2
        · exact e2.symm
        · have a1 := m1 x e
          have a2 := l1 y e2
          omega
    subst e
    have := nat_rise_ext l2 m2 fun i => by
      have := h i
      constructor
      · intro hi
        rcases List.mem_cons.mp (this.mp (List.mem_cons_of_mem _ hi)) with e | e
        · subst e; have := l1 _ hi; omega
        · exact e
      · intro hi
        rcases List.mem_cons.mp (this.mpr (List.mem_cons_of_mem _ hi)) with e | e
        · subst e; have := m1 _ hi; omega
        · exact e
    rw [this]
/-! numbers sorted -/
def srtN (l : List Nat) : List Nat := l.mergeSort fun a b => decide (a ≤ b)
theorem sortOk_nums (l : List Nat) (h : l.length ≤ 100000) : sortOk (nums l) = true := by
  unfold sortOk
  have a1 : ((nums l).all fun x => x.lay && decide (x.dep ≤ 8)) = true := by
    rw [List.all_eq_true]
    intro x hx
    obtain ⟨i, _, rfl⟩ := List.mem_map.mp hx
    rfl
  have a2 : ((nums l).all fun a => (nums l).all fun b => D.alk a b) = true := by
    rw [List.all_eq_true]
    intro x hx
    obtain ⟨i, _, rfl⟩ := List.mem_map.mp hx
    rw [List.all_eq_true]
    intro y hy
    obtain ⟨j, _, rfl⟩ := List.mem_map.mp hy
    unfold D.alk
    rfl
  have a3 : (nums l).all D.noT = true := by
    rw [List.all_eq_true]
    intro x hx
    obtain ⟨τ, _, rfl⟩ := List.mem_map.mp hx
    rfl
  rw [a1, a2, a3]
  simp [h]
theorem sort_nums (l : List Nat) (h : l.length ≤ 100000) : dSort (.lst (nums l)) = .ok (.lst (nums (srtN l))) := by
  unfold dSort
  simp only [sortOk_nums l h, if_true]
  unfold srtN nums
  rw [List.map_mergeSort]
  intro a _ b _
  unfold D.leV D.ltv
  by_cases q : a ≤ b
  · have : ¬ ((b : Int) < a) := by omega
    simp [q, this]
  · have : ((b : Int) < a) := by omega
    simp [q, this]
theorem srtN_mem {l : List Nat} {i : Nat} : i ∈ srtN l ↔ i ∈ l := List.mem_mergeSort
theorem srtN_rise {l : List Nat} (h : l.Nodup) : (srtN l).Pairwise (· < ·) := by
  have h1 : (srtN l).Pairwise fun a b => decide (a ≤ b) = true := List.pairwise_mergeSort (fun a b c h1 h2 => by simp at *; omega) (fun a b => by simp; omega) l
  have h2 : (srtN l).Nodup := (List.mergeSort_perm l _).nodup_iff.mpr h
  exact (List.Pairwise.and h1 h2).imp fun {a b} ⟨q1, q2⟩ => by
    have := of_decide_eq_true q1
    omega
theorem nums_in (i : Nat) (l : List Nat) : dIn (.int (i : Nat)) (.lst (nums l)) = .ok (.bl (decide (i ∈ l))) := by
  have h1 : (nums l).all D.flat = true := by
    rw [List.all_eq_true]
    intro x hx
    obtain ⟨υ, _, rfl⟩ := List.mem_map.mp hx
    rfl
  have h2 : ((nums l).any fun x => D.eq x (.int (i : Nat))) = decide (i ∈ l) := by
    rw [Bool.eq_iff_iff, List.any_eq_true, decide_eq_true_eq]
    constructor
    · rintro ⟨x, hx, e⟩
      obtain ⟨j, hj, rfl⟩ := List.mem_map.mp hx
      rw [deq_int_int, beq_iff_eq] at e
      have : j = i := by omega
      rw [← this]; exact hj
    · intro h
      exact ⟨.int (i : Nat), List.mem_map.mpr ⟨i, h, rfl⟩, by simp⟩
  rw [dIn_lst, h1, h2]
  rfl
/-- the loop of reach_of -/
theorem reach_loop (b : Bk) (hb : b.ok) (i : Nat) (hi : i < b.length) : ∀ (n : Nat) (found row : List Nat) (s4 : Slot), row.length + 48 * (6 - found.length) < n → n ≤ 1000 → found.Nodup → row.length ≤ 1000 → (∀ j ∈ found, Rch b i j) → (∀ j ∈ row, Rch b i j) →
    (∀ j ∈ spk (b.at i), j ∈ found ∨ j ∈ row) → (∀ j ∈ found, ∀ k ∈ spk (b.at j), k ∈ found ∨ k ∈ row) →
    ∃ (found' : List Nat) (y4 : Slot), found'.Nodup ∧ (∀ j, j ∈ found' ↔ Rch b i j) ∧ whileL (tst (varB 3)) p_reach_of_b0 n [.pl (bk b), .pl (.int (i : Nat)), .own (.lst (nums found)), .own (.lst (nums row)), s4] = .nx [.pl (bk b), .pl (.int (i : Nat)), .own (.lst (nums found')), .own (.lst []), y4]
  | 0, _, _, _, h, _, _, _, _, _, _, _ => absurd h (by omega)
  | n + 1, found, row, s4, hm, hn, nd, hr, h1, h2, h3, h4 => by
    rcases List.eq_nil_or_concat row with e | ⟨r, x, e⟩
    · subst e
      refine ⟨found, s4, nd, fun j => ⟨h1 j, fun h => ?_⟩, by unfold whileL; simp⟩
      induction h with
      | one h => exact (h3 _ h).resolve_right (fun z => nomatch z)
      | more _ h ih => exact (h4 _ ih _ h).resolve_right (fun z => nomatch z)
    · have e : row = r ++ [x] := by rw [e]; simp
      subst e
      have hx := h2 x (by simp)
      have hxl := rch_lt (wf_of hb) hi hx
      have hrl : (r ++ [x]).length = r.length + 1 := by simp
      have hfl : found.length ≤ 6 := by
        have : found.length ≤ (List.range b.length).length := nd.length_le_of_subset fun j hj => List.mem_range.mpr (rch_lt (wf_of hb) hi (h1 j hj))
        rw [List.length_range] at this
        have := hb.six
        omega
      by_cases hin : x ∈ found
      · have ih := reach_loop b hb i hi n found r (.pl (.int x)) (by omega) (by omega) nd (by omega) h1 (fun j hj => h2 j (by simp [hj])) (fun j hj => by
          rcases h3 j hj with q | q
          · exact .inl q
          · rcases List.mem_append.mp q with q | q
            · exact .inr q
            · rw [List.mem_singleton.mp q]; exact .inl hin) (fun j hj k hk => by
          rcases h4 j hj k hk with q | q
          · exact .inl q
          · rcases List.mem_append.mp q with q | q
            · exact .inr q
            · rw [List.mem_singleton.mp q]; exact .inl hin)
        obtain ⟨f', y4, a1, a2, a3⟩ := ih
        refine ⟨f', y4, a1, a2, ?_⟩
        have hni := nums_in x found
        rw [decide_eq_true hin] at hni
        have hnn : nums (r ++ [x]) = nums r ++ [.int (x : Nat)] := by simp [nums]
        rw [hnn]
        unfold whileL
        have hne : (nums r ++ [D.int (x : Nat)]).isEmpty = false := by simp
        unfold p_reach_of_b0 at a3
        simp [p_reach_of_b0, hni, -dIn, -nums, hne]
        exact a3
      · have hsp := spoken_eq b.length hb.six 4 6 (b.at x) (at_ok hb hxl) (by omega) (by omega)
        have hsl := spk_len b.length hb.six 3 (b.at x) (at_ok hb hxl)
        have hfl2 : found.length < 6 := by
          have : (x :: found).length ≤ (List.range b.length).length := (List.nodup_cons.mpr ⟨hin, nd⟩).length_le_of_subset fun j hj => by
            rcases List.mem_cons.mp hj with rfl | hj
            · exact List.mem_range.mpr hxl
            · exact List.mem_range.mpr (rch_lt (wf_of hb) hi (h1 j hj))
          rw [List.length_range] at this
          simp at this
          have := hb.six
          omega
        have ih := reach_loop b hb i hi n (found ++ [x]) (r ++ spk (b.at x)) (.pl (.int x)) (by rw [List.length_append, List.length_append, List.length_singleton]; omega) (by omega) (by
            rw [List.nodup_append]
            exact ⟨nd, by simp, fun a ha b hb' => by rw [List.mem_singleton.mp hb']; exact fun z => hin (z ▸ ha)⟩) (by rw [List.length_append]; omega) (fun j hj => by
            rcases List.mem_append.mp hj with q | q
            · exact h1 j q
            · rw [List.mem_singleton.mp q]; exact hx) (fun j hj => by
            rcases List.mem_append.mp hj with q | q
            · exact h2 j (by simp [q])
            · exact .more hx q) (fun j hj => by
            rcases h3 j hj with q | q
            · exact .inl (by simp [q])
            · rcases List.mem_append.mp q with q | q
              · exact .inr (by simp [q])
              · exact .inl (by simp [List.mem_singleton.mp q])) (fun j hj k hk => by
            rcases List.mem_append.mp hj with q | q
            · rcases h4 j q k hk with q | q
              · exact .inl (by simp [q])
              · rcases List.mem_append.mp q with q | q
                · exact .inr (by simp [q])
                · exact .inl (by simp [List.mem_singleton.mp q])
            · rw [List.mem_singleton.mp q] at hk
              exact .inr (by simp [hk]))
        obtain ⟨f', y4, a1, a2, a3⟩ := ih
        refine ⟨f', y4, a1, a2, ?_⟩
        have hni := nums_in x found
        rw [decide_eq_false hin] at hni
        have hix := bk_ix b hxl
        have l1 : found.length < 16777216 := by omega
        have l2 : r.length + (spk (b.at x)).length ≤ 16777216 := by omega
        have hnn : nums (r ++ [x]) = nums r ++ [.int (x : Nat)] := by simp [nums]
        have hnf : nums (found ++ [x]) = nums found ++ [.int (x : Nat)] := by simp [nums]
        have hns : nums (r ++ spk (b.at x)) = nums r ++ nums (spk (b.at x)) := by simp [nums]
        have l1' : (nums found).length < 16777216 := by simpa [nums] using l1
        have l2' : (nums r).length + (nums (spk (b.at x))).length ≤ 16777216 := by simpa [nums] using l2
        rw [hnf, hns] at a3
        rw [hnn]
        unfold whileL
        have hne : (nums r ++ [D.int (x : Nat)]).isEmpty = false := by simp
        unfold p_reach_of_b0 at a3
        simp [p_reach_of_b0, hni, hix, hsp, l1', l2', -dIn, -dIx, -nums, hne]
        exact a3
theorem reach_of_eq (b : Bk) (hb : b.ok) (i : Nat) (hi : i < b.length) : p_reach_of [bk b, .int (i : Nat)] = .ok (.lst (nums (rchL b i))) := by
  have hsp := spoken_eq b.length hb.six 4 6 (b.at i) (at_ok hb hi) (by omega) (by omega)
  have hsl := spk_len b.length hb.six 3 (b.at i) (at_ok hb hi)
  obtain ⟨f, y4, nd, hf, e⟩ := reach_loop b hb i hi 1000 [] (spk (b.at i)) .dead (by simp; omega) (by omega) (by simp) (by omega) (fun _ h => nomatch h) (fun j h => .one h) (fun j h => .inr h) (fun _ h => nomatch h)
  have hfl : f.length ≤ 100000 := by
    have : f.length ≤ (List.range b.length).length := nd.length_le_of_subset fun j hj => List.mem_range.mpr (rch_lt (wf_of hb) hi ((hf j).mp hj))
    rw [List.length_range] at this
    have := hb.six
    omega
  have hs := sort_nums f hfl
  have hr : srtN f = rchL b i := nat_rise_ext (srtN_rise nd) (rchL_rise b i) fun j => by rw [srtN_mem, hf, mem_rchL (wf_of hb) hi]
  rw [hr] at hs
  have hix := bk_ix b hi
  have e' : sWhile 1000 (tst (varB 3)) p_reach_of_b0 [.pl (bk b), .pl (.int (i : Nat)), .own (.lst []), .own (.lst (nums (spk (b.at i)))), .dead] = .nx [.pl (bk b), .pl (.int (i : Nat)), .own (.lst (nums f)), .own (.lst []), y4] := e
  simp at e' hs hsp
  simp [p_reach_of, hix, hsp, e', hs, -dIx]
theorem reach_eq (b : Bk) (hb : b.ok) (i : Nat) (hi : i < b.length) : p_reach [bk b, .int (i : Nat)] = .ok (.lst (nums (rchL b i))) := by
  simp [p_reach, look_eq b hb, look_number_eq b hb.six i hi, reach_of_eq b hb i hi]
/-! worths in steady tellings, kinds -/
def wsOf (b : Bk) (i : Nat) : List Wo := signs.filter fun w => b.all.any fun τ => decide (τ.getD i .n = w)
theorem mem_wsOf {b : Bk} {i : Nat} {w : Wo} : w ∈ wsOf b i ↔ ∃ τ, b.next τ = τ ∧ τ.getD i .n = w := by
  unfold wsOf
  rw [List.mem_filter, List.any_eq_true]
  simp only [mem_signs, true_and, decide_eq_true_eq]
  exact ⟨fun ⟨τ, h1, h2⟩ => ⟨τ, mem_all.mp h1, h2⟩, fun ⟨τ, h1, h2⟩ => ⟨τ, mem_all.mpr h1, h2⟩⟩
theorem tx_ix (τ : Tel) (h : τ.length ≤ 1000) (i : Nat) (hi : i < τ.length) : dIx (tx τ) (.int (i : Nat)) = .ok (w1 (τ.getD i .n)) := by
  have hl : τ.length ≤ 16777216 := by omega
  simp [tx, hl, List.getD_eq_getElem?_getD, List.getElem?_eq_getElem hi]
theorem w1_in (w : Wo) (l : List Wo) : dIn (w1 w) (.lst (l.map w1)) = .ok (.bl (l.any fun v => decide (v = w))) := by
  have h1 : (l.map w1).all D.flat = true := by
    rw [List.all_eq_true]
    intro x hx
    obtain ⟨υ, _, rfl⟩ := List.mem_map.mp hx
    rfl
  have h2 : ((l.map w1).any fun x => D.eq x (w1 w)) = l.any fun v => decide (v = w) := by
    rw [List.any_map]
    congr 1
    funext v
    cases v <;> cases w <;> rfl
  rw [dIn_lst, h1, h2]
  rfl
theorem worths_eq (b : Bk) (hb : b.ok) (i : Nat) (hi : i < b.length) : p_worths [bk b, .int (i : Nat)] = .ok (tx (wsOf b i)) := by
  have hl := all_len2 b hb
  have h6 := hb.six
  have c1 : comp (src (callE p_all_of (acons (var 0) anil))) [3] (gSet 3) yes (bin dIx (var 3) (var 1)) [.pl (bk b), .pl (.int (i : Nat)), .dead, .dead, .dead] = .ok (.lst ((b.all.map fun τ => τ.getD i .n).map w1)) := by
    rw [comp_smap tx b.all (fun τ => w1 (τ.getD i .n)) (by simp [all_of_eq b hb]) (by omega) fun τ hτ => by
      have hlen := steady_len (mem_all.mp hτ)
      have := tx_ix τ (by omega) i (by omega)
      simp only [bin, var, List.set, List.getElem?_cons_zero, List.getElem?_cons_succ, ok_bind, this], List.map_map]
    rfl
  have c2 : comp (src (con (.str [102, 110, 116]))) [4] (gSet 4) (tstB (bin dIn (var 4) (var 2))) (var 4) [.pl (bk b), .pl (.int (i : Nat)), .pl (.lst ((b.all.map fun τ => τ.getD i .n).map w1)), .dead, .dead] = .ok (.lst ((wsOf b i).map w1)) := by
    have : wsOf b i = signs.filter fun w => (b.all.map fun τ => τ.getD i .n).any fun v => decide (v = w) := by
      unfold wsOf
      congr 1
      funext w
      rw [List.any_map]
      rfl
    rw [this]
    refine comp_src w1 signs _ w1 rfl (by decide) (fun w _ => ?_) (fun _ _ _ => rfl)
    have := w1_in w (b.all.map fun τ => τ.getD i .n)
    simp only [tstB, bin, var, List.set, List.getElem?_cons_zero, List.getElem?_cons_succ, ok_bind, this]
  have hj := join_ws (wsOf b i) (by
    unfold wsOf
    have := List.length_filter_le (fun w => b.all.any fun τ => decide (τ.getD i .n = w)) signs
    have h3 : signs.length = 3 := rfl
    omega)
  have hw : ((wsOf b i).map fun w => D.str [w.c]) = (wsOf b i).map w1 := rfl
  rw [hw] at hj
  generalize (b.all.map fun τ => τ.getD i .n).map w1 = row at c1 c2
  simp [p_worths, look_eq b hb, look_number_eq b h6 i hi, c1, c2, -comp, hj, tx]
/-- the word for how a saying stands -/
def kindT (b : Bk) (i : Nat) : Txt := if b.lst.getD i .n ≠ .n then [103, 114, 111, 117, 110, 100, 101, 100] else if wsOf b i = [.n] then [112, 97, 114, 97, 100, 111, 120] else if wsOf b i = [.f, .n, .t] then [102, 114, 101, 101] else [108, 101, 97, 110, 105, 110, 103]
theorem ws_cases (b : Bk) (i : Nat) (h : b.lst.getD i .n = .n) : wsOf b i = [.n] ∨ wsOf b i = [.f, .n, .t] ∨ wsOf b i = [.f, .n] ∨ wsOf b i = [.n, .t] := by
  have hn : (b.all.any fun τ => decide (τ.getD i .n = .n)) = true := List.any_eq_true.mpr ⟨b.lst, lst_mem b, by simpa using h⟩
  unfold wsOf signs
  cases hf : (b.all.any fun τ => decide (τ.getD i .n = .f)) <;> cases ht : (b.all.any fun τ => decide (τ.getD i .n = .t)) <;> simp only [List.filter_cons, hn, hf, ht, List.filter_nil] <;> simp
def kindD (ws : List Wo) : Res D := (dctE (pcons (con (.str [110])) (con (.str [112, 97, 114, 97, 100, 111, 120])) (pcons (con (.str [102, 110, 116])) (con (.str [102, 114, 101, 101])) (pcons (con (.str [102, 110])) (con (.str [108, 101, 97, 110, 105, 110, 103])) (pcons (con (.str [110, 116])) (con (.str [108, 101, 97, 110, 105, 110, 103])) pnil)))) []).bind fun d => dIx d (tx ws)
theorem kind_eq (b : Bk) (hb : b.ok) (i : Nat) (hi : i < b.length) : p_kind [bk b, .int (i : Nat)] = .ok (.str (kindT b i)) := by
  have h6 := hb.six
  have hle : p_least [bk b] = .ok (tx b.lst) := least_eq b hb
  have hll := lst_len b
  have hix := tx_ix b.lst (by omega) i (by omega)
  have hw := worths_eq b hb i hi
  unfold kindT
  cases hq : b.lst.getD i .n with
  | f => rw [hq] at hix; simp [p_kind, look_eq b hb, look_number_eq b h6 i hi, hle, hix, -dIx]
  | t => rw [hq] at hix; simp [p_kind, look_eq b hb, look_number_eq b h6 i hi, hle, hix, -dIx]
  | n =>
    rw [hq] at hix
    have hk : ∀ (w : List Wo) (z : Txt), wsOf b i = w → kindD w = .ok (.str z) → p_kind [bk b, .int (i : Nat)] = .ok (.str z) := fun w z e k => by
      rw [e] at hw
      unfold kindD at k
      simp only [dctE, pcons, pnil, con, ok_bind] at k
      simp [p_kind, look_eq b hb, look_number_eq b h6 i hi, hle, hix, hw, -dIx, -putAll] at k ⊢
      rw [k]
    rcases ws_cases b i hq with e | e | e | e <;> rw [e]
    · exact hk _ _ e rfl
    · exact hk _ _ e rfl
    · exact hk _ _ e rfl
    · exact hk _ _ e rfl
end SR

set_option linter.all false
set_option autoImplicit false
set_option Elab.async false
set_option maxRecDepth 100000
/-! Th11: laws of rounds, highest ones, kinds. -/
namespace SR
theorem rnds_cons (b : Bk) : ∀ (k : Nat) (τ : Tel), ∃ l, rnds b k τ = τ :: l
  | 0, τ => ⟨[], rfl⟩
  | k + 1, τ => by
    unfold rnds
    split
    · exact ⟨[], rfl⟩
    · exact ⟨_, rfl⟩
/-- each round lies below the next one, which is another -/
theorem rnds_step (b : Bk) : ∀ (k : Nat) (τ : Tel), τ.length = b.length → bel τ (b.next τ) = true → ∀ p ∈ (rnds b k τ).zip (rnds b k τ).tail, bel p.1 p.2 = true ∧ p.1 ≠ p.2
  | 0, τ, _, _, p, h => by simp [rnds] at h
  | k + 1, τ, hl, hs, p, h => by
    by_cases q : b.next τ = τ
    · have e : rnds b (k + 1) τ = [τ] := by unfold rnds; rw [if_pos q]
      rw [e] at h
      simp at h
    · have e : rnds b (k + 1) τ = τ :: rnds b k (b.next τ) := by
        show (if b.next τ = τ then [τ] else τ :: rnds b k (b.next τ)) = _
        rw [if_neg q]
      rw [e, List.tail_cons] at h
      obtain ⟨l, el⟩ := rnds_cons b k (b.next τ)
      have ih := rnds_step b k (b.next τ) (next_len b τ) (next_mono b hs (by rw [next_len]; exact hl))
      rw [el] at h ih
      rw [List.zip_cons_cons] at h
      rcases List.mem_cons.mp h with rfl | h
      · exact ⟨hs, fun z => q z.symm⟩
      · exact ih p h
theorem rnds_all_len (b : Bk) : ∀ (k : Nat) (τ : Tel), τ.length = b.length → ∀ υ ∈ rnds b k τ, υ.length = b.length
  | 0, τ, hl, υ, h => by simp [rnds] at h; rw [h]; exact hl
  | k + 1, τ, hl, υ, h => by
    unfold rnds at h
    split at h
    · rw [List.mem_singleton.mp h]; exact hl
    · rcases List.mem_cons.mp h with rfl | h
      · exact hl
      · exact rnds_all_len b k _ (next_len b τ) υ h
theorem rnds_len' (b : Bk) : ∀ (k : Nat) (τ : Tel), (rnds b k τ).length ≤ k + 1
  | 0, _ => by simp [rnds]
  | k + 1, τ => by
    unfold rnds
    split
    · simp
    · have := rnds_len' b k (b.next τ)
      simp
      omega
/-- a whole one is highest -/
theorem whole_high {b : Bk} {τ : Tel} (h : τ ∈ b.all) (hw : τ.whole = true) : τ ∈ b.highs := by
  unfold Bk.highs
  rw [List.mem_filter]
  refine ⟨h, ?_⟩
  rw [List.isEmpty_iff, List.filter_eq_nil_iff]
  intro υ hu hc
  rw [Bool.and_eq_true, decide_eq_true_eq] at hc
  apply hc.1
  have hl : τ.length = υ.length := by rw [steady_len (mem_all.mp h), steady_len (mem_all.mp hu)]
  refine (tel_ext hl fun i => ?_).symm
  have hb := bel_get hc.2 hl i
  by_cases hi : i < τ.length
  · have hne : τ.getD i .n ≠ .n := by
      unfold Tel.whole at hw
      rw [List.getD_eq_getElem?_getD, List.getElem?_eq_getElem hi]
      intro e
      simp at hw
      exact hw (e ▸ List.getElem_mem hi)
    unfold Wo.le at hb
    rw [Bool.or_eq_true, decide_eq_true_eq, decide_eq_true_eq] at hb
    exact hb.resolve_left hne
  · simp [List.getD_eq_getElem?_getD, List.getElem?_eq_none (show τ.length ≤ i by omega), List.getElem?_eq_none (show υ.length ≤ i by omega)]
/-- below a highest one -/
theorem below_high (b : Bk) : ∀ (n : Nat) (τ : Tel), τ.count .n ≤ n → τ ∈ b.all → ∃ υ ∈ b.highs, bel τ υ = true
  | n, τ, hn, h => by
    by_cases q : τ ∈ b.highs
    · exact ⟨τ, q, bel_refl τ⟩
    · have : ∃ υ ∈ b.all, υ ≠ τ ∧ bel τ υ = true := by
        unfold Bk.highs at q
        rw [List.mem_filter] at q
        have hq : ¬ ((b.all.filter fun υ => decide (υ ≠ τ) && bel τ υ).isEmpty = true) := fun z => q ⟨h, z⟩
        rw [List.isEmpty_iff, List.filter_eq_nil_iff] at hq
        simp only [Classical.not_forall] at hq
        obtain ⟨υ, hu, hc⟩ := hq
        have hc : (decide (υ ≠ τ) && bel τ υ) = true := by simpa using hc
        rw [Bool.and_eq_true, decide_eq_true_eq] at hc
        exact ⟨υ, hu, hc⟩
      obtain ⟨υ, hu, hne, hb⟩ := this
      have hl : τ.length = υ.length := by rw [steady_len (mem_all.mp h), steady_len (mem_all.mp hu)]
      have := count_lt hl (fun p hp => List.all_eq_true.mp hb p hp) hne
      cases n with
      | zero => omega
      | succ n =>
        obtain ⟨ω, ho, hb2⟩ := below_high b n υ (by omega) hu
        have hlo : υ.length = ω.length := by
          rw [steady_len (mem_all.mp hu)]
          have : ω ∈ b.all := (List.mem_filter.mp ho).1
          rw [steady_len (mem_all.mp this)]
        exact ⟨ω, ho, bel_trans hl hlo hb hb2⟩
/-- of true and false comes true or false -/
theorem ofMany_sure (lo hi : Nat) (ws : List Wo) (h : ∀ w ∈ ws, w ≠ .n) : ofMany lo hi ws ≠ .n := by
  have hc : ws.count .n = 0 := List.count_eq_zero.mpr fun z => h _ z rfl
  unfold ofMany
  rw [hc]
  split
  · exact fun z => nomatch z
  · split
    · exact fun z => nomatch z
    · omega
theorem w_sure (τ : Tel) : ∀ s : Sy, (∀ j ∈ spk s, τ.getD j .n ≠ .n) → s.w τ ≠ .n
  | .yes, _ => fun z => nomatch z
  | .no, _ => fun z => nomatch z
  | .says i, h => h i (by simp [spk])
  | .neg a, h => by
    have := w_sure τ a h
    unfold Sy.w
    cases hq : a.w τ with
    | n => exact absurd hq this
    | t => exact fun z => nomatch z
    | f => exact fun z => nomatch z
  | .and a b, h => ofMany_sure 2 2 _ fun w hw => by
    simp at hw
    rcases hw with rfl | rfl
    · exact w_sure τ a fun j hj => h j (by simp [spk, hj])
    · exact w_sure τ b fun j hj => h j (by simp [spk, hj])
  | .or a b, h => ofMany_sure 1 2 _ fun w hw => by
    simp at hw
    rcases hw with rfl | rfl
    · exact w_sure τ a fun j hj => h j (by simp [spk, hj])
    · exact w_sure τ b fun j hj => h j (by simp [spk, hj])
  | .many lo hi row, h => ofMany_sure lo hi _ fun w hw => by
    obtain ⟨r, hr, rfl⟩ := List.mem_map.mp hw
    exact h r hr
theorem steady_get {b : Bk} {τ : Tel} (h : b.next τ = τ) {i : Nat} (hi : i < b.length) : τ.getD i .n = (b.at i).w τ := by
  have := next_get b τ hi
  rw [h] at this
  exact this
def grnd : Txt := [103, 114, 111, 117, 110, 100, 101, 100]
theorem kind_grnd (b : Bk) (i : Nat) : kindT b i = grnd ↔ b.lst.getD i .n ≠ .n := by
  unfold kindT grnd
  by_cases h : b.lst.getD i .n ≠ .n
  · rw [if_pos h]; exact ⟨fun _ => h, fun _ => rfl⟩
  · rw [if_neg h]
    constructor
    · intro e
      exfalso
      split at e
      · cases e
      · split at e <;> cases e
    · intro z; exact absurd z h
theorem reach_grnd {b : Bk} {i : Nat} (hi : i < b.length) (h : ∀ j, Rch b i j → b.lst.getD j .n ≠ .n) : b.lst.getD i .n ≠ .n := by
  rw [steady_get (lst_fix b) hi]
  exact w_sure _ _ fun j hj => h j (.one hj)
theorem str_ne (x y : Txt) : dNe (.str x) (.str y) = .ok (.bl (!decide (x = y))) := by
  have : (x == y) = decide (x = y) := by rw [Bool.eq_iff_iff, beq_iff_eq, decide_eq_true_eq]
  simp [this]
theorem str_eq (x y : Txt) : dEq (.str x) (.str y) = .ok (.bl (decide (x = y))) := by
  have : (x == y) = decide (x = y) := by rw [Bool.eq_iff_iff, beq_iff_eq, decide_eq_true_eq]
  simp [this]
theorem good_nums (l : List Nat) : (D.lst (nums l)).good = true := by
  have h1 : ∀ l : List Nat, D.lays (nums l) = true := by
    intro l
    induction l with
    | nil => simp [D.lays]
    | cons w l ih =>
      simp only [nums, List.map_cons] at ih ⊢
      simp only [D.lays, D.lay, ih]
      rfl
  have h2 : ∀ l : List Nat, D.deps (nums l) = 0 := by
    intro l
    induction l with
    | nil => simp [D.deps]
    | cons w l ih =>
      simp only [nums, List.map_cons] at ih ⊢
      simp only [D.deps, D.dep, ih]
      rfl
  unfold D.good
  simp only [D.lay, D.dep, h1, h2]
  rfl
theorem nums_deq : ∀ l m : List Nat, D.eqs (nums l) (nums m) = decide (l = m)
  | [], [] => by simp
  | [], _ :: _ => by simp
  | _ :: _, [] => by simp
  | x :: l, y :: m => by
    have ih := nums_deq l m
    simp only [nums, List.map_cons] at ih ⊢
    rw [deqs_cons, ih, deq_int_int]
    by_cases h : x = y <;> by_cases k : l = m <;> simp [h, k]
    omega
theorem nums_eq (l m : List Nat) : dEq (.lst (nums l)) (.lst (nums m)) = .ok (.bl (decide (l = m))) := by
  have h1 := good_nums l
  have h2 := good_nums m
  have h3 := nums_deq l m
  simp only [dEq, h1, h2, deq_lst_lst, h3]
  simp
theorem nums_ne (l m : List Nat) : dNe (.lst (nums l)) (.lst (nums m)) = .ok (.bl (!decide (l = m))) := by
  have h1 := good_nums l
  have h2 := good_nums m
  have h3 := nums_deq l m
  simp only [dNe, h1, h2, deq_lst_lst, h3]
  simp
theorem nums_nil (l : List Nat) : dEq (.lst (nums l)) (.lst []) = .ok (.bl l.isEmpty) := by
  have := nums_eq l []
  simp only [nums, List.map_nil] at this
  show dEq (.lst (l.map _)) (.lst []) = _
  rw [this]
  cases l <;> rfl
theorem rows_nn (l : List Tel) : dNe (.lst (l.map tx)) (.lst []) = .ok (.bl (!l.isEmpty)) := by
  have := rows_ne2 l []
  simp only [List.map_nil] at this
  rw [this]
  cases l <;> rfl
theorem ones_nn {α : Type} (l : List α) : dNe (.lst (l.map fun _ => .int 1)) (.lst []) = .ok (.bl (!l.isEmpty)) := by
  have h1 := good_ones l
  have h0 : (D.lst []).good = true := by decide
  have h2 := ones_beq l
  simp only [dNe, h1, h0, deq_lst_lst, h2]
  simp
end SR

set_option linter.all false
set_option autoImplicit false
set_option Elab.async false
set_option maxRecDepth 100000
/-! Th12: sorted(set(numbers)). -/
namespace SR
def insN (x : Nat) : List Nat → List Nat
  | [] => [x]
  | y :: r => if x = y then y :: r else if x < y then x :: y :: r else y :: insN x r
theorem insN_mem (x : Nat) : ∀ (l : List Nat) (i : Nat), i ∈ insN x l ↔ i = x ∨ i ∈ l
  | [], i => by simp [insN]
  | y :: r, i => by
    unfold insN
    split
    · rename_i h; subst h; simp
    · split
      · simp
      · rw [List.mem_cons, insN_mem x r i, List.mem_cons]
        constructor
        · rintro (h | h | h)
          · exact .inr (.inl h)
          · exact .inl h
          · exact .inr (.inr h)
        · rintro (h | h | h)
          · exact .inr (.inl h)
          · exact .inl h
          · exact .inr (.inr h)
theorem insN_rise (x : Nat) : ∀ l : List Nat, l.Pairwise (· < ·) → (insN x l).Pairwise (· < ·)
  | [], _ => by simp [insN]
  | y :: r, h => by
    obtain ⟨h1, h2⟩ := List.pairwise_cons.mp h
    unfold insN
    split
    · exact h
    · rename_i hne
      split
      · rename_i hlt
        refine List.pairwise_cons.mpr ⟨fun z hz => ?_, h⟩
        rcases List.mem_cons.mp hz with rfl | hz
        · exact hlt
        · have := h1 z hz
          omega
      · rename_i hnl
        refine List.pairwise_cons.mpr ⟨fun z hz => ?_, insN_rise x r h2⟩
        rcases (insN_mem x r z).mp hz with rfl | hz
        · omega
        · exact h1 z hz
theorem insD_nums (x : Nat) : ∀ l : List Nat, insD D.lt1 (.int (x : Nat)) (nums l) = nums (insN x l)
  | [] => rfl
  | y :: r => by
    have ih := insD_nums x r
    simp only [nums, List.map_cons] at ih ⊢
    unfold insD insN
    rw [deq_int_int]
    by_cases h : x = y
    · subst h; simp
    · have h1 : ((x : Int) == (y : Int)) = false := by rw [beq_eq_false_iff_ne]; omega
      rw [h1, if_neg h]
      by_cases h2 : x < y
      · have h3 : D.lt1 (.int (x : Nat)) (.int (y : Nat)) = true := by simp [D.lt1]; exact h2
        rw [if_neg Bool.false_ne_true, if_pos h3, if_pos h2]
        rfl
      · have h3 : D.lt1 (.int (x : Nat)) (.int (y : Nat)) = false := by simp [D.lt1]; omega
        rw [if_neg Bool.false_ne_true, h3, if_neg Bool.false_ne_true, if_neg h2, ih]
        rfl
def setN (l : List Nat) : List Nat := l.foldr insN []
theorem setN_mem (l : List Nat) (i : Nat) : i ∈ setN l ↔ i ∈ l := by
  unfold setN
  induction l with
  | nil => simp
  | cons x l ih => rw [List.foldr_cons, insN_mem, ih, List.mem_cons]
theorem setN_rise (l : List Nat) : (setN l).Pairwise (· < ·) := by
  unfold setN
  induction l with
  | nil => simp
  | cons x l ih => rw [List.foldr_cons]; exact insN_rise x _ ih
theorem sset_nums (l : List Nat) (h : l.length < 1000) : dSSet (.lst (nums l)) = .ok (.lst (nums (setN l))) := by
  have h1 : kind1 (nums l) = true := by
    unfold kind1
    have : (nums l).all D.isIn = true := by
      rw [List.all_eq_true]
      intro x hx
      obtain ⟨i, _, rfl⟩ := List.mem_map.mp hx
      rfl
    rw [this]
    simp
  have h2 : (nums l).foldr (insD D.lt1) [] = nums (setN l) := by
    unfold setN
    clear h h1
    induction l with
    | nil => rfl
    | cons x l ih =>
      rw [List.foldr_cons, ← insD_nums, ← ih]
      rfl
  unfold dSSet
  simp only [h1, h2]
  simp [h]
end SR

set_option linter.all false
set_option autoImplicit false
set_option Elab.async false
set_option maxRecDepth 100000
/-! Th15: sayings with other numbers; two books behind one another. -/
namespace SR
/-- numbers led by f, rows by g -/
def Sy.led (f : Nat → Nat) (g : List Nat → List Nat) : Sy → Sy
  | .yes => .yes
  | .no => .no
  | .says i => .says (f i)
  | .neg a => .neg (a.led f g)
  | .and a b => .and (a.led f g) (b.led f g)
  | .or a b => .or (a.led f g) (b.led f g)
  | .many lo hi row => .many lo hi (g row)
theorem ofMany_perm {lo hi : Nat} {ws vs : List Wo} (h : ws.Perm vs) : ofMany lo hi ws = ofMany lo hi vs := by
  unfold ofMany
  rw [h.count_eq, h.count_eq]
theorem led_w {f : Nat → Nat} {g : List Nat → List Nat} (hg : ∀ row, (g row).Perm (row.map f)) {σ τ : Tel} : ∀ s : Sy, (∀ j ∈ spk s, σ.getD (f j) .n = τ.getD j .n) → (s.led f g).w σ = s.w τ
  | .yes, _ => rfl
  | .no, _ => rfl
  | .says i, h => h i (by simp [spk])
  | .neg a, h => by
    have := led_w hg a (σ := σ) (τ := τ) fun j hj => h j (by simpa [spk] using hj)
    simp only [Sy.led, Sy.w, this]
  | .and a b, h => by
    have h1 := led_w hg a (σ := σ) (τ := τ) fun j hj => h j (by simp [spk, hj])
    have h2 := led_w hg b (σ := σ) (τ := τ) fun j hj => h j (by simp [spk, hj])
    simp only [Sy.led, Sy.w, h1, h2]
  | .or a b, h => by
    have h1 := led_w hg a (σ := σ) (τ := τ) fun j hj => h j (by simp [spk, hj])
    have h2 := led_w hg b (σ := σ) (τ := τ) fun j hj => h j (by simp [spk, hj])
    simp only [Sy.led, Sy.w, h1, h2]
  | .many lo hi row, h => by
    simp only [Sy.led, Sy.w]
    rw [ofMany_perm ((hg row).map _), List.map_map]
    congr 1
    exact List.map_congr_left fun j hj => h j (by simpa [spk] using hj)
theorem led_id : ∀ s : Sy, s.led id id = s
  | .yes => rfl
  | .no => rfl
  | .says i => rfl
  | .neg a => by simp only [Sy.led, led_id a]
  | .and a b => by simp only [Sy.led, led_id a, led_id b]
  | .or a b => by simp only [Sy.led, led_id a, led_id b]
  | .many lo hi row => rfl
/-- what a saying speaks of is all that counts -/
theorem w_same {σ τ : Tel} (s : Sy) (h : ∀ j ∈ spk s, σ.getD j .n = τ.getD j .n) : s.w σ = s.w τ := by
  have := led_w (f := id) (g := id) (fun row => by simp) (σ := σ) (τ := τ) s h
  rwa [led_id] at this
theorem led_spk {f : Nat → Nat} {g : List Nat → List Nat} (hg : ∀ row, (g row).Perm (row.map f)) (j : Nat) : ∀ s : Sy, j ∈ spk (s.led f g) ↔ ∃ i ∈ spk s, f i = j
  | .yes => by simp [Sy.led, spk]
  | .no => by simp [Sy.led, spk]
  | .says i => by simp [Sy.led, spk, eq_comm]
  | .neg a => by have := led_spk hg j a; simpa [Sy.led, spk] using this
  | .and a b => by
    have h1 := led_spk hg j a
    have h2 := led_spk hg j b
    simp only [Sy.led, spk, List.mem_append, h1, h2]
    constructor
    · rintro (⟨i, h, e⟩ | ⟨i, h, e⟩)
      · exact ⟨i, .inl h, e⟩
      · exact ⟨i, .inr h, e⟩
    · rintro ⟨i, h | h, e⟩
      · exact .inl ⟨i, h, e⟩
      · exact .inr ⟨i, h, e⟩
  | .or a b => by
    have h1 := led_spk hg j a
    have h2 := led_spk hg j b
    simp only [Sy.led, spk, List.mem_append, h1, h2]
    constructor
    · rintro (⟨i, h, e⟩ | ⟨i, h, e⟩)
      · exact ⟨i, .inl h, e⟩
      · exact ⟨i, .inr h, e⟩
    · rintro ⟨i, h | h, e⟩
      · exact .inl ⟨i, h, e⟩
      · exact .inr ⟨i, h, e⟩
  | .many lo hi row => by
    simp only [Sy.led, spk]
    rw [(hg row).mem_iff, List.mem_map]
theorem led_deep (f : Nat → Nat) (g : List Nat → List Nat) : ∀ s : Sy, (s.led f g).deep = s.deep
  | .yes => rfl
  | .no => rfl
  | .says i => rfl
  | .neg a => by simp only [Sy.led, Sy.deep, led_deep f g a]
  | .and a b => by simp only [Sy.led, Sy.deep, led_deep f g a, led_deep f g b]
  | .or a b => by simp only [Sy.led, Sy.deep, led_deep f g a, led_deep f g b]
  | .many lo hi row => rfl
theorem led_wf {f : Nat → Nat} {g : List Nat → List Nat} {m m' : Nat} (hm : m ≤ m') (hf : ∀ i, i < m → f i < m') (hg : ∀ row, (∀ r ∈ row, r < m) → row.Pairwise (· < ·) → (∀ r ∈ g row, r < m') ∧ (g row).Pairwise (· < ·)) : ∀ s : Sy, s.wf m → (s.led f g).wf m'
  | .yes, _ => trivial
  | .no, _ => trivial
  | .says i, h => hf i h
  | .neg a, h => led_wf hm hf hg a h
  | .and a b, h => ⟨led_wf hm hf hg a h.1, led_wf hm hf hg b h.2⟩
  | .or a b, h => ⟨led_wf hm hf hg a h.1, led_wf hm hf hg b h.2⟩
  | .many lo hi row, h => ⟨h.1, Nat.le_trans h.2.1 hm, hg row h.2.2.1 h.2.2.2⟩
/-! two books behind one another -/
def onG (m : Nat) (row : List Nat) : List Nat := row.map (· + m)
def Sy.on (m : Nat) (s : Sy) : Sy := s.led (· + m) (onG m)
theorem onG_perm (m : Nat) (row : List Nat) : (onG m row).Perm (row.map (· + m)) := List.Perm.refl _
theorem on_wf {m n : Nat} (s : Sy) (h : s.wf n) : (s.on m).wf (m + n) :=
  led_wf (by omega) (fun i hi => by omega) (fun row h1 h2 => ⟨fun r hr => by
    obtain ⟨i, hi, rfl⟩ := List.mem_map.mp hr
    have := h1 i hi
    omega, by
    unfold onG
    rw [List.pairwise_map]
    exact h2.imp fun h => by omega⟩) s h
def Bk.cat (a b : Bk) : Bk := a ++ b.map (Sy.on a.length)
section
variable (a b : Bk) (ha : a.wf) (hb : b.wf)
theorem cat_len : (a.cat b).length = a.length + b.length := by unfold Bk.cat; rw [List.length_append, List.length_map]
include ha hb
theorem cat_wf (h6 : a.length + b.length ≤ 6) : (a.cat b).wf := by
  have hl := cat_len a b
  have hp := ha.pos
  refine ⟨by omega, by omega, fun s hs => ?_⟩
  rw [hl]
  rcases List.mem_append.mp hs with h | h
  · exact wf_mono s (by omega) (ha.all s h)
  · obtain ⟨t, ht, rfl⟩ := List.mem_map.mp h
    exact on_wf t (hb.all t ht)
theorem cat_ok (oa : a.ok) (ob : b.ok) (h6 : a.length + b.length ≤ 6) : (a.cat b).ok := by
  refine ok_of_wf (cat_wf a b ha hb h6) ?_
  unfold Bk.shal
  rw [List.all_eq_true]
  intro s hs
  rcases List.mem_append.mp hs with h | h
  · exact decide_eq_true ((ok_iff _ _ s).mp (oa.all s h)).2
  · obtain ⟨t, ht, rfl⟩ := List.mem_map.mp h
    have := ((ok_iff _ _ t).mp (ob.all t ht)).2
    unfold Sy.on
    rw [led_deep]
    exact decide_eq_true this
omit hb in
theorem app_getL (σ τ : Tel) (hs : σ.length = a.length) {j : Nat} (hj : j < a.length) : (σ ++ τ).getD j .n = σ.getD j .n := by
  rw [List.getD_eq_getElem?_getD, List.getD_eq_getElem?_getD, List.getElem?_append_left (by omega)]
omit hb ha in
theorem app_getR (σ τ : Tel) (hs : σ.length = a.length) (j : Nat) : (σ ++ τ).getD (j + a.length) .n = τ.getD j .n := by
  rw [List.getD_eq_getElem?_getD, List.getD_eq_getElem?_getD, List.getElem?_append_right (by omega), hs, Nat.add_sub_cancel]
omit hb in
theorem cat_next (σ τ : Tel) (hs : σ.length = a.length) : (a.cat b).next (σ ++ τ) = a.next σ ++ b.next τ := by
  unfold Bk.next Bk.cat
  rw [List.map_append, List.map_map]
  congr 1
  · exact List.map_congr_left fun s hs' => w_same s fun j hj => app_getL a ha σ τ hs (spk_lt _ s (ha.all s hs') j hj)
  · exact List.map_congr_left fun s hs' => led_w (onG_perm _) s fun j _ => app_getR a σ τ hs j
omit hb in
theorem cat_steady {υ : Tel} : (a.cat b).next υ = υ ↔ ∃ σ τ, υ = σ ++ τ ∧ a.next σ = σ ∧ b.next τ = τ := by
  constructor
  · intro h
    have hl := steady_len h
    rw [cat_len] at hl
    have e : υ = υ.take a.length ++ υ.drop a.length := (List.take_append_drop _ _).symm
    have hs : (υ.take a.length).length = a.length := by rw [List.length_take]; omega
    refine ⟨_, _, e, ?_⟩
    rw [e, cat_next a b ha _ _ hs] at h
    exact List.append_inj h (by rw [next_len, hs])
  · rintro ⟨σ, τ, rfl, h1, h2⟩
    rw [cat_next a b ha _ _ (steady_len h1), h1, h2]
omit hb in
theorem cat_all : (a.cat b).all = a.all.flatMap fun σ => b.all.map (σ ++ ·) := by
  refine rise_ext (all_rise _) ?_ fun υ => ?_
  · rw [List.pairwise_flatMap]
    refine ⟨fun σ _ => ?_, (all_rise a).imp_of_mem fun {σ σ'} hσ hσ' h x hx y hy => ?_⟩
    · rw [List.pairwise_map]
      exact (all_rise b).imp fun h => (tlt_app σ).mpr h
    · obtain ⟨τ, _, rfl⟩ := List.mem_map.mp hx
      obtain ⟨τ', _, rfl⟩ := List.mem_map.mp hy
      exact tlt_pre h (by rw [steady_len (mem_all.mp hσ), steady_len (mem_all.mp hσ')]) _ _
  · rw [mem_all, cat_steady a b ha, List.mem_flatMap]
    constructor
    · rintro ⟨σ, τ, rfl, h1, h2⟩
      exact ⟨σ, mem_all.mpr h1, List.mem_map.mpr ⟨τ, mem_all.mpr h2, rfl⟩⟩
    · rintro ⟨σ, h1, h⟩
      obtain ⟨τ, h2, rfl⟩ := List.mem_map.mp h
      exact ⟨σ, τ, rfl, mem_all.mp h1, mem_all.mp h2⟩
omit ha hb in
theorem bel_app {σ σ' τ τ' : Tel} (h : σ.length = σ'.length) : bel (σ ++ τ) (σ' ++ τ') = (bel σ σ' && bel τ τ') := by
  unfold bel
  rw [List.zip_append h, List.all_append]
omit ha hb in
theorem tog_app {σ σ' τ τ' : Tel} (h : σ.length = σ'.length) : tog (σ ++ τ) (σ' ++ τ') = (tog σ σ' && tog τ τ') := by
  unfold tog
  rw [List.zip_append h, List.all_append]
/-- the least of all steady ones -/
theorem lst_uniq {c : Bk} {σ : Tel} (h : c.next σ = σ) (k : ∀ τ, c.next τ = τ → bel σ τ = true) : c.lst = σ :=
  bel_anti (by rw [lst_len, steady_len h]) (lst_le c h) (k _ (lst_fix c))
theorem cat_lst : (a.cat b).lst = a.lst ++ b.lst := by
  refine lst_uniq a b ha hb ((cat_steady a b ha).mpr ⟨_, _, rfl, lst_fix a, lst_fix b⟩) fun υ h => ?_
  obtain ⟨σ, τ, rfl, h1, h2⟩ := (cat_steady a b ha).mp h
  rw [bel_app (by rw [lst_len, steady_len h1]), lst_le a h1, lst_le b h2]
  rfl
theorem cat_setl : (a.cat b).setl = a.setl ++ b.setl := by
  have ia := setl_intr a
  have ib := setl_intr b
  refine setl_uniq _ ⟨(cat_steady a b ha).mpr ⟨_, _, rfl, ia.1, ib.1⟩, fun υ h => ?_⟩ fun υ h => ?_
  · obtain ⟨σ, τ, rfl, h1, h2⟩ := (cat_steady a b ha).mp h
    rw [tog_app (by rw [steady_len ia.1, steady_len h1]), ia.2 σ h1, ib.2 τ h2]
    rfl
  · obtain ⟨σ, τ, rfl, h1, h2⟩ := (cat_steady a b ha).mp h.1
    have key : ∀ σ' τ', a.next σ' = σ' → b.next τ' = τ' → tog σ σ' = true ∧ tog τ τ' = true := fun σ' τ' k1 k2 => by
      have := h.2 (σ' ++ τ') ((cat_steady a b ha).mpr ⟨_, _, rfl, k1, k2⟩)
      rw [tog_app (by rw [steady_len h1, steady_len k1])] at this
      simpa using this
    have ja : a.intr σ := ⟨h1, fun σ' k => (key σ' b.lst k (lst_fix b)).1⟩
    have jb : b.intr τ := ⟨h2, fun τ' k => (key a.lst τ' (lst_fix a) k).2⟩
    rw [bel_app (by rw [steady_len h1, steady_len ia.1]), setl_top a ja, setl_top b jb]
    rfl
omit ha hb in
theorem mem_highs {c : Bk} {τ : Tel} : τ ∈ c.highs ↔ c.next τ = τ ∧ ∀ υ, c.next υ = υ → bel τ υ = true → υ = τ := by
  unfold Bk.highs
  rw [List.mem_filter, mem_all, List.isEmpty_iff, List.filter_eq_nil_iff]
  simp only [Bool.and_eq_true, decide_eq_true_eq, not_and, mem_all]
  constructor
  · rintro ⟨h1, h2⟩
    exact ⟨h1, fun υ hu hb => Classical.byContradiction fun q => h2 υ hu q hb⟩
  · rintro ⟨h1, h2⟩
    exact ⟨h1, fun υ hu q hb => q (h2 υ hu hb)⟩
omit ha hb in
theorem highs_rise (c : Bk) : c.highs.Pairwise tlt := (all_rise c).filter _
theorem cat_highs : (a.cat b).highs = a.highs.flatMap fun σ => b.highs.map (σ ++ ·) := by
  refine rise_ext (highs_rise _) ?_ fun υ => ?_
  · rw [List.pairwise_flatMap]
    refine ⟨fun σ _ => ?_, (highs_rise a).imp_of_mem fun {σ σ'} hσ hσ' h x hx y hy => ?_⟩
    · rw [List.pairwise_map]
      exact (highs_rise b).imp fun h => (tlt_app σ).mpr h
    · obtain ⟨τ, _, rfl⟩ := List.mem_map.mp hx
      obtain ⟨τ', _, rfl⟩ := List.mem_map.mp hy
      exact tlt_pre h (by rw [steady_len (mem_highs.mp hσ).1, steady_len (mem_highs.mp hσ').1]) _ _
  · rw [mem_highs, cat_steady a b ha, List.mem_flatMap]
    constructor
    · rintro ⟨⟨σ, τ, rfl, h1, h2⟩, h⟩
      refine ⟨σ, mem_highs.mpr ⟨h1, fun σ' k hb' => ?_⟩, List.mem_map.mpr ⟨τ, mem_highs.mpr ⟨h2, fun τ' k hb' => ?_⟩, rfl⟩⟩
      · have := h (σ' ++ τ) ((cat_steady a b ha).mpr ⟨_, _, rfl, k, h2⟩) (by rw [bel_app (by rw [steady_len h1, steady_len k]), hb', bel_refl]; rfl)
        exact (List.append_inj' this rfl).1
      · have := h (σ ++ τ') ((cat_steady a b ha).mpr ⟨_, _, rfl, h1, k⟩) (by rw [bel_app rfl, hb', bel_refl]; rfl)
        exact List.append_cancel_left this
    · rintro ⟨σ, h1, h⟩
      obtain ⟨τ, h2, rfl⟩ := List.mem_map.mp h
      have k1 := mem_highs.mp h1
      have k2 := mem_highs.mp h2
      refine ⟨⟨σ, τ, rfl, k1.1, k2.1⟩, fun υ hu hb' => ?_⟩
      obtain ⟨σ', τ', rfl, q1, q2⟩ := (cat_steady a b ha).mp hu
      rw [bel_app (by rw [steady_len k1.1, steady_len q1])] at hb'
      simp only [Bool.and_eq_true] at hb'
      rw [k1.2 σ' q1 hb'.1, k2.2 τ' q2 hb'.2]
theorem cat_whole : ((a.cat b).all.filter Tel.whole).length = (a.all.filter Tel.whole).length * (b.all.filter Tel.whole).length := by
  rw [cat_all a b ha]
  have : ∀ l m : List Tel, ((l.flatMap fun σ => m.map (σ ++ ·)).filter Tel.whole).length = (l.filter Tel.whole).length * (m.filter Tel.whole).length := by
    intro l m
    induction l with
    | nil => simp
    | cons σ l ih =>
      rw [List.flatMap_cons, List.filter_append, List.length_append, ih, List.filter_map, List.length_map]
      have e : ∀ τ, (Tel.whole ∘ fun x => σ ++ x) τ = (σ.whole && τ.whole) := fun τ => by
        simp [Tel.whole, List.contains_eq_mem, Bool.decide_or]
      rw [List.filter_congr fun τ _ => e τ]
      cases h : σ.whole with
      | true =>
        rw [List.filter_cons_of_pos h, List.length_cons, Nat.succ_mul]
        simp only [Bool.true_and]
        exact Nat.add_comm _ _
      | false =>
        rw [List.filter_cons_of_neg (by rw [h]; exact Bool.false_ne_true)]
        simp
  exact this _ _
theorem cat_atR {i : Nat} : (a.cat b).at (i + a.length) = if i < b.length then (b.at i).on a.length else .no := by
  unfold Bk.at Bk.cat
  rw [List.getD_eq_getElem?_getD, List.getElem?_append_right (by omega), Nat.add_sub_cancel, List.getElem?_map]
  by_cases h : i < b.length
  · rw [if_pos h, List.getD_eq_getElem?_getD, List.getElem?_eq_getElem h]
    rfl
  · rw [if_neg h, List.getElem?_eq_none (by omega)]
    rfl
theorem cat_rch {i : Nat} (hi : i < b.length) {j : Nat} : Rch (a.cat b) (i + a.length) j ↔ ∃ k, Rch b i k ∧ j = k + a.length := by
  constructor
  · intro h
    induction h with
    | one h =>
      rw [cat_atR a b ha hb, if_pos hi] at h
      obtain ⟨k, hk, e⟩ := (led_spk (onG_perm _) _ _).mp h
      exact ⟨k, .one hk, e.symm⟩
    | more h1 h2 ih =>
      obtain ⟨k, hk, rfl⟩ := ih
      rw [cat_atR a b ha hb, if_pos (rch_lt hb hi hk)] at h2
      obtain ⟨k', hk', e⟩ := (led_spk (onG_perm _) _ _).mp h2
      exact ⟨k', .more hk hk', e.symm⟩
  · rintro ⟨k, h, rfl⟩
    induction h with
    | one h =>
      refine .one ?_
      rw [cat_atR a b ha hb, if_pos hi]
      exact (led_spk (onG_perm _) _ _).mpr ⟨_, h, rfl⟩
    | more h1 h2 ih =>
      refine .more ih ?_
      rw [cat_atR a b ha hb, if_pos (rch_lt hb hi h1)]
      exact (led_spk (onG_perm _) _ _).mpr ⟨_, h2, rfl⟩
theorem cat_reach (h6 : a.length + b.length ≤ 6) {i : Nat} (hi : i < b.length) : rchL (a.cat b) (i + a.length) = (rchL b i).map (· + a.length) := by
  refine nat_rise_ext (rchL_rise _ _) ?_ fun j => ?_
  · rw [List.pairwise_map]
    exact (rchL_rise b i).imp fun h => by omega
  · rw [mem_rchL (cat_wf a b ha hb h6) (by rw [cat_len]; omega), cat_rch a b ha hb hi, List.mem_map]
    constructor
    · rintro ⟨k, h, rfl⟩
      exact ⟨k, (mem_rchL hb hi).mpr h, rfl⟩
    · rintro ⟨k, h, rfl⟩
      exact ⟨k, (mem_rchL hb hi).mp h, rfl⟩
theorem ws_ext {c d : Bk} {i j : Nat} (h : ∀ w, (∃ τ, c.next τ = τ ∧ τ.getD i .n = w) ↔ ∃ τ, d.next τ = τ ∧ τ.getD j .n = w) : wsOf c i = wsOf d j := by
  unfold wsOf
  refine List.filter_congr fun w _ => ?_
  rw [Bool.eq_iff_iff]
  have := h w
  simp only [List.any_eq_true, mem_all, decide_eq_true_eq]
  exact this
omit ha hb in
theorem kind_ext {c d : Bk} {i j : Nat} (h1 : c.lst.getD i .n = d.lst.getD j .n) (h2 : wsOf c i = wsOf d j) : kindT c i = kindT d j := by
  unfold kindT
  rw [h1, h2]
theorem cat_kindR {i : Nat} : kindT (a.cat b) (i + a.length) = kindT b i := by
  refine kind_ext ?_ (ws_ext a b ha hb fun w => ?_)
  · rw [cat_lst a b ha hb, app_getR a _ _ (lst_len a)]
  · constructor
    · rintro ⟨υ, h, e⟩
      obtain ⟨σ, τ, rfl, h1, h2⟩ := (cat_steady a b ha).mp h
      rw [app_getR a _ _ (steady_len h1)] at e
      exact ⟨τ, h2, e⟩
    · rintro ⟨τ, h, e⟩
      exact ⟨a.lst ++ τ, (cat_steady a b ha).mpr ⟨_, _, rfl, lst_fix a, h⟩, by rw [app_getR a _ _ (lst_len a)]; exact e⟩
theorem cat_kindL {i : Nat} (hi : i < a.length) : kindT (a.cat b) i = kindT a i := by
  refine kind_ext ?_ (ws_ext a b ha hb fun w => ?_)
  · rw [cat_lst a b ha hb, app_getL a ha _ _ (lst_len a) hi]
  · constructor
    · rintro ⟨υ, h, e⟩
      obtain ⟨σ, τ, rfl, h1, h2⟩ := (cat_steady a b ha).mp h
      rw [app_getL a ha _ _ (steady_len h1) hi] at e
      exact ⟨σ, h1, e⟩
    · rintro ⟨σ, h, e⟩
      exact ⟨σ ++ b.lst, (cat_steady a b ha).mpr ⟨_, _, rfl, h, lst_fix b⟩, by rw [app_getL a ha _ _ (steady_len h) hi]; exact e⟩
end
end SR

set_option linter.all false
set_option autoImplicit false
set_option Elab.async false
set_option maxRecDepth 100000
/-! Q11: the first sayings of a book by themselves. -/
namespace SR
/-- numbers by rest -/
def Sy.back (m : Nat) : Sy → Sy
  | .yes => .yes
  | .no => .no
  | .says i => .says (i % m)
  | .neg a => .neg (a.back m)
  | .and a b => .and (a.back m) (b.back m)
  | .or a b => .or (a.back m) (b.back m)
  | .many lo hi row => .many (min lo m) (min hi m) (row.filter fun r => decide (r < m))
theorem back_wf {M m : Nat} (hm : 1 ≤ m) : ∀ s : Sy, s.wf M → (s.back m).wf m
  | .yes, _ => trivial
  | .no, _ => trivial
  | .says i, _ => Nat.mod_lt _ hm
  | .neg a, h => back_wf hm a h
  | .and a b, h => ⟨back_wf hm a h.1, back_wf hm b h.2⟩
  | .or a b, h => ⟨back_wf hm a h.1, back_wf hm b h.2⟩
  | .many lo hi row, h => ⟨by have := h.1; simp only [Nat.le_min]; omega, Nat.min_le_right _ _, fun r hr => by simpa using (List.mem_filter.mp hr).2, h.2.2.2.filter _⟩
theorem back_deep (m : Nat) : ∀ s : Sy, (s.back m).deep = s.deep
  | .yes => rfl
  | .no => rfl
  | .says i => rfl
  | .neg a => by simp only [Sy.back, Sy.deep, back_deep m a]
  | .and a b => by simp only [Sy.back, Sy.deep, back_deep m a, back_deep m b]
  | .or a b => by simp only [Sy.back, Sy.deep, back_deep m a, back_deep m b]
  | .many lo hi row => rfl
theorem row_len {m lo hi : Nat} {row : List Nat} (h : (Sy.many lo hi row).wf m) : row.length ≤ m := by
  have := rise_len m row 0 (fun r hr => ⟨Nat.zero_le _, h.2.2.1 r hr⟩) h.2.2.2
  omega
theorem min_eq (i j : Nat) : dMin2 (.int (i : Nat)) (.int (j : Nat)) = .ok (.int (min i j : Nat)) := by
  unfold dMin2
  simp only
  congr 2
  split <;> omega
theorem cut_t1 {α : Type} (xs : List α) : cut xs none (some 1) = xs.take 1 := cut_to xs 1
theorem cut_t3 {α : Type} (xs : List α) : cut xs none (some 3) = xs.take 3 := cut_to xs 3
theorem mod_nn (i m : Nat) (hm : 1 ≤ m) : dMod (.int (i : Nat)) (.int (m : Nat)) = .ok (.int (i % m : Nat)) := by
  rw [dMod_pos _ _ (by omega)]
  rfl
theorem l_back_eq (M m : Nat) (hM : M ≤ 6) (hm : 1 ≤ m) : ∀ (k n : Nat) (s : Sy), s.ok M k → k ≤ n → l_back n [s.d, .int (m : Nat)] = .ok (s.back m).d
  | 0, _, _, h, _ => h.elim
  | k + 1, 0, _, _, h => absurd h (by omega)
  | k + 1, n + 1, s, h, hk => by
    cases s with
    | yes => simp [l_back, Sy.back, cut_t1]
    | no => simp [l_back, Sy.back, cut_t1]
    | says i =>
      have h1 := mod_nn i m hm
      simp [l_back, Sy.back, h1, -dMod]
    | neg a =>
      have h1 := l_back_eq M m hM hm k n a h (by omega)
      simp [l_back, Sy.back, h1, compM, cut_t1]
    | and a b =>
      have h1 := l_back_eq M m hM hm k n a h.1 (by omega)
      have h2 := l_back_eq M m hM hm k n b h.2 (by omega)
      simp [l_back, Sy.back, h1, h2, compM, cut_t1]
    | or a b =>
      have h1 := l_back_eq M m hM hm k n a h.1 (by omega)
      have h2 := l_back_eq M m hM hm k n b h.2 (by omega)
      simp [l_back, Sy.back, h1, h2, compM, cut_t1]
    | many lo hi row =>
      have hr := row_len (m := M) (lo := lo) (hi := hi) (row := row) h
      have hr' : row.length ≤ 16777216 := by omega
      have e1 := min_eq lo m
      have e2 := min_eq hi m
      have hf : (row.filter fun r => decide (r < m)).length ≤ 16777216 := Nat.le_trans (List.length_filter_le _ _) hr'
      have c := comp_src (fun r : Nat => D.int r) row (fun r => decide (r < m)) (fun r => D.int r) (j := 5) (sr := src (bin dIx (var 0) (con (.int 3)))) (t := tstB (bin dLt (var 5) (var 1))) (e := var 5) (ρ := [.pl (Sy.many lo hi row).d, .pl (.int (m : Nat)), .pl (.int (min lo m : Nat)), .pl (.int (min hi m : Nat)), .dead, .dead]) (by simp) hr' (fun r _ => by simp) (fun r _ _ => by simp)
      simp only [Sy.d, nums] at c
      simp [l_back, Sy.back, e1, e2, c, -dMin2, -comp]
/-- the first sayings, by themselves -/
def Bk.cutK (b : Bk) (q : Nat) : Bk := (b.take q).map (Sy.back (b.take q).length)
theorem cutK_len (b : Bk) (q : Nat) : (b.cutK q).length = min q b.length := by unfold Bk.cutK; rw [List.length_map, List.length_take]
theorem cutK_ok (b : Bk) (hb : b.ok) (q : Nat) (hq : 1 ≤ q) : (b.cutK q).ok := by
  have h1 := hb.pos
  have h6 := hb.six
  have hl := cutK_len b q
  refine ⟨by omega, by omega, fun s hs => ?_⟩
  obtain ⟨t, ht, rfl⟩ := List.mem_map.mp hs
  have h := (ok_iff _ _ t).mp (hb.all t (List.mem_of_mem_take ht))
  refine (ok_iff _ _ _).mpr ⟨?_, by rw [back_deep]; exact h.2⟩
  rw [cutK_len, ← List.length_take]
  exact back_wf (by rw [List.length_take]; omega) t h.1
theorem cut_loop (q : Nat) (m : Nat) (hm : 1 ≤ m) (b : Bk) (hb : b.ok) (hm2 : (b.take q).length = m) : ∀ (l : List Sy) (acc : List D) (s3 : Slot), (∀ s ∈ l, s ∈ b) → acc.length + l.length ≤ 100 → ∃ s3', 
    forL (forF (gSet 3) l_cut_b0) (l.map Sy.d) [.pl (bk b), .pl (.int (q : Nat)), .own (.lst acc), s3] = .nx [.pl (bk b), .pl (.int (q : Nat)), .own (.lst (acc ++ (l.map (Sy.back m)).map Sy.d)), s3']
  | [], acc, s3, _, _ => ⟨s3, by simp [forL]⟩
  | s :: l, acc, s3, h, ha => by
    rw [List.length_cons] at ha
    obtain ⟨s3', ih⟩ := cut_loop q m hm b hb hm2 l (acc ++ [(s.back m).d]) (.pl s.d) (fun t ht => h t (List.mem_cons_of_mem _ ht)) (by rw [List.length_append, List.length_singleton]; omega)
    have h1 := l_back_eq b.length m hb.six hm 4 8 s (hb.all s (h s List.mem_cons_self)) (by omega)
    have hc : dCut (bk b) none (some (q : Int)) = .ok (.tup ((b.map Sy.d).take q)) := by
      simp only [bk, dCut, cut_to]
    have hl : dLen (.tup ((b.map Sy.d).take q)) = .ok (.int (m : Nat)) := by
      have e1 : ((b.map Sy.d).take q).length = m := by rw [← hm2, List.length_take, List.length_take, List.length_map]
      have e2 : m ≤ 16777216 := by rw [← hm2, List.length_take]; have := hb.six; omega
      simp only [dLen, e1, line_val, if_pos e2]
    have hal : acc.length < 16777216 := by omega
    refine ⟨s3', ?_⟩
    rw [List.map_cons]
    unfold forL
    have st : forF (gSet 3) l_cut_b0 s.d [.pl (bk b), .pl (.int (q : Nat)), .own (.lst acc), s3] = .nx [.pl (bk b), .pl (.int (q : Nat)), .own (.lst (acc ++ [(s.back m).d])), .pl s.d] := by
      simp [forF, l_cut_b0, hc, hl, h1, hal, -dCut, -dLen]
    rw [st]
    simp only
    rw [ih]
    simp
theorem l_cut_eq (b : Bk) (hb : b.ok) (q : Nat) (hq : 1 ≤ q) : l_cut [bk b, .int (q : Nat)] = .ok (bk (b.cutK q)) := by
  have h1 := hb.pos
  have h6 := hb.six
  have hm : 1 ≤ (b.take q).length := by rw [List.length_take]; omega
  obtain ⟨s3', e⟩ := cut_loop q (b.take q).length hm b hb rfl (b.take q) [] .dead (fun s hs => List.mem_of_mem_take hs) (by rw [List.length_take, List.length_nil]; omega)
  have hc : dCut (bk b) none (some (q : Int)) = .ok (.tup ((b.take q).map Sy.d)) := by
    simp only [bk, dCut, cut_to, List.map_take]
  simp only [List.nil_append] at e
  have e2 : (D.tup (((b.take q).map (Sy.back (b.take q).length)).map Sy.d)) = bk (b.cutK q) := rfl
  generalize ((b.take q).map (Sy.back (b.take q).length)).map Sy.d = L at e e2
  simp [l_cut, hc, e, e2, -dCut, -List.map_take]
end SR

set_option linter.all false
set_option autoImplicit false
set_option Elab.async false
set_option maxRecDepth 100000
/-! Th16: a book by other numbers. -/
namespace SR
/-- where a number stands -/
def posn (o : List Nat) (i : Nat) : Nat := o.idxOf i
def posG (o : List Nat) (row : List Nat) : List Nat := srtN (row.map (posn o))
def reord (o : List Nat) (τ : Tel) : Tel := o.map fun i => τ.getD i .n
def Bk.ren (b : Bk) (o : List Nat) : Bk := o.map fun i => (b.at i).led (posn o) (posG o)
theorem posG_perm (o : List Nat) (row : List Nat) : (posG o row).Perm (row.map (posn o)) := List.mergeSort_perm _ _
theorem low_getN (b : Bk) (i : Nat) : b.low.getD i .n = .n := by
  unfold Bk.low
  rw [List.getD_eq_getElem?_getD, List.getElem?_replicate]
  split <;> rfl
section
variable (b : Bk) (hb : b.wf) (o : List Nat) (ho : o.Perm (List.range b.length))
include ho
theorem o_len : o.length = b.length := by rw [ho.length_eq, List.length_range]
theorem o_nodup : o.Nodup := ho.nodup_iff.mpr List.nodup_range
theorem o_mem {i : Nat} : i ∈ o ↔ i < b.length := by rw [ho.mem_iff, List.mem_range]
theorem posn_lt {i : Nat} (hi : i < b.length) : posn o i < b.length := by
  have := List.idxOf_lt_length_of_mem ((o_mem b o ho).mpr hi)
  rw [o_len b o ho] at this
  exact this
theorem o_pos {i : Nat} (hi : i < b.length) : o[posn o i]? = some i := by
  have h := List.idxOf_lt_length_of_mem ((o_mem b o ho).mpr hi)
  unfold posn
  rw [List.getElem?_eq_getElem h, List.getElem_idxOf h]
theorem pos_o {j : Nat} {i : Nat} (h : o[j]? = some i) : posn o i = j := by
  obtain ⟨hj, e⟩ := List.getElem?_eq_some_iff.mp h
  unfold posn
  rw [← e]
  exact (o_nodup b o ho).idxOf_getElem j hj
theorem pos_inj {i j : Nat} (hi : i < b.length) (hj : j < b.length) (h : posn o i = posn o j) : i = j := by
  have h1 := o_pos b o ho hi
  have h2 := o_pos b o ho hj
  rw [h, h2] at h1
  exact (Option.some.inj h1).symm
omit ho in
theorem reord_get (τ : Tel) {j i : Nat} (h : o[j]? = some i) : (reord o τ).getD j .n = τ.getD i .n := by
  unfold reord
  rw [List.getD_eq_getElem?_getD, List.getElem?_map, h]
  rfl
theorem reord_pos (τ : Tel) {i : Nat} (hi : i < b.length) : (reord o τ).getD (posn o i) .n = τ.getD i .n := reord_get o τ (o_pos b o ho hi)
theorem reord_len (τ : Tel) : (reord o τ).length = b.length := by unfold reord; rw [List.length_map, o_len b o ho]
theorem ren_len : (b.ren o).length = b.length := by unfold Bk.ren; rw [List.length_map, o_len b o ho]
theorem reord_inj {σ τ : Tel} (hs : σ.length = b.length) (ht : τ.length = b.length) (h : reord o σ = reord o τ) : σ = τ := tel_ext (by omega) fun i => by
  by_cases hi : i < b.length
  · rw [← reord_pos b o ho σ hi, ← reord_pos b o ho τ hi, h]
  · rw [List.getD_eq_getElem?_getD, List.getElem?_eq_none (by omega), List.getD_eq_getElem?_getD, List.getElem?_eq_none (by omega)]
/-- each telling is one by other numbers -/
theorem reord_surj {υ : Tel} (h : υ.length = b.length) : ∃ τ : Tel, τ.length = b.length ∧ reord o τ = υ := by
  refine ⟨(List.range b.length).map fun i => υ.getD (posn o i) .n, by rw [List.length_map, List.length_range], ?_⟩
  refine tel_ext (by rw [reord_len b o ho, h]) fun j => ?_
  by_cases hj : j < b.length
  · have hq : j < o.length := by rw [o_len b o ho]; exact hj
    have e : o[j]? = some o[j] := List.getElem?_eq_getElem hq
    have hi : o[j] < b.length := (o_mem b o ho).mp (List.getElem_mem _)
    rw [reord_get o _ e, List.getD_eq_getElem?_getD, List.getElem?_map, List.getElem?_range hi]
    show υ.getD (posn o o[j]) .n = _
    rw [pos_o b o ho e]
  · rw [List.getD_eq_getElem?_getD, List.getElem?_eq_none (by rw [reord_len b o ho]; omega), List.getD_eq_getElem?_getD, List.getElem?_eq_none (by omega)]
theorem bel_reord {σ τ : Tel} (hs : σ.length = b.length) (ht : τ.length = b.length) : bel (reord o σ) (reord o τ) = bel σ τ := by
  rw [Bool.eq_iff_iff]
  constructor
  · intro h
    refine bel_of (by omega) fun i => ?_
    by_cases hi : i < b.length
    · rw [← reord_pos b o ho σ hi, ← reord_pos b o ho τ hi]
      exact bel_get h (by rw [reord_len b o ho, reord_len b o ho]) _
    · rw [List.getD_eq_getElem?_getD, List.getElem?_eq_none (by omega)]
      rfl
  · intro h
    refine bel_of (by rw [reord_len b o ho, reord_len b o ho]) fun j => ?_
    by_cases hj : j < b.length
    · obtain ⟨i, e⟩ : ∃ i, o[j]? = some i := ⟨_, List.getElem?_eq_getElem (by rw [o_len b o ho]; exact hj)⟩
      rw [reord_get o _ e, reord_get o _ e]
      exact bel_get h (by omega) _
    · rw [List.getD_eq_getElem?_getD, List.getElem?_eq_none (by rw [reord_len b o ho]; omega)]
      rfl
theorem tog_reord {σ τ : Tel} (hs : σ.length = b.length) (ht : τ.length = b.length) : tog (reord o σ) (reord o τ) = tog σ τ := by
  rw [Bool.eq_iff_iff]
  constructor
  · intro h
    refine tog_of (by omega) fun i => ?_
    by_cases hi : i < b.length
    · rw [← reord_pos b o ho σ hi, ← reord_pos b o ho τ hi]
      exact tog_get h (by rw [reord_len b o ho, reord_len b o ho]) _
    · rw [List.getD_eq_getElem?_getD, List.getElem?_eq_none (by omega)]
      rfl
  · intro h
    refine tog_of (by rw [reord_len b o ho, reord_len b o ho]) fun j => ?_
    by_cases hj : j < b.length
    · obtain ⟨i, e⟩ : ∃ i, o[j]? = some i := ⟨_, List.getElem?_eq_getElem (by rw [o_len b o ho]; exact hj)⟩
      rw [reord_get o _ e, reord_get o _ e]
      exact tog_get h (by omega) _
    · rw [List.getD_eq_getElem?_getD, List.getElem?_eq_none (by rw [reord_len b o ho]; omega)]
      rfl
theorem ren_at {j i : Nat} (h : o[j]? = some i) : (b.ren o).at j = (b.at i).led (posn o) (posG o) := by
  unfold Bk.at Bk.ren
  rw [List.getD_eq_getElem?_getD, List.getElem?_map, h]
  rfl
include hb
theorem at_wf {i : Nat} (hi : i < b.length) : (b.at i).wf b.length := by
  unfold Bk.at
  rw [List.getD_eq_getElem?_getD, List.getElem?_eq_getElem hi]
  exact hb.all _ (List.getElem_mem hi)
theorem ren_wf : (b.ren o).wf := by
  have hl := ren_len b o ho
  refine ⟨by rw [hl]; exact hb.pos, by rw [hl]; exact hb.six, fun s hs => ?_⟩
  obtain ⟨i, hi, rfl⟩ := List.mem_map.mp hs
  rw [hl]
  have hi' := (o_mem b o ho).mp hi
  refine led_wf (Nat.le_refl _) (fun i hi => posn_lt b o ho hi) (fun row h1 h2 => ⟨fun r hr => ?_, ?_⟩) _ (at_wf b hb o ho hi')
  · obtain ⟨i, hi, rfl⟩ := List.mem_map.mp ((posG_perm o row).mem_iff.mp hr)
    exact posn_lt b o ho (h1 i hi)
  · refine srtN_rise ?_
    rw [List.nodup_iff_pairwise_ne, List.pairwise_map]
    exact h2.imp_of_mem fun {x y} hx hy h e => by
      have := pos_inj b o ho (h1 x hx) (h1 y hy) e
      omega
theorem ren_ok (ob : b.ok) : (b.ren o).ok := by
  refine ok_of_wf (ren_wf b hb o ho) ?_
  unfold Bk.shal
  rw [List.all_eq_true]
  intro s hs
  obtain ⟨i, hi, rfl⟩ := List.mem_map.mp hs
  have hi' := (o_mem b o ho).mp hi
  rw [led_deep]
  exact decide_eq_true ((ok_iff _ _ _).mp (at_ok ob hi')).2
theorem ren_next (τ : Tel) : (b.ren o).next (reord o τ) = reord o (b.next τ) := by
  show (o.map _).map _ = o.map _
  rw [List.map_map]
  refine List.map_congr_left fun i hi => ?_
  have hi' := (o_mem b o ho).mp hi
  rw [next_get b τ hi']
  exact led_w (posG_perm o) _ fun j hj => reord_pos b o ho τ (spk_lt _ _ (at_wf b hb o ho hi') j hj)
theorem ren_steady {υ : Tel} : (b.ren o).next υ = υ ↔ ∃ τ, b.next τ = τ ∧ υ = reord o τ := by
  constructor
  · intro h
    have hl := steady_len h
    rw [ren_len b o ho] at hl
    obtain ⟨τ, ht, rfl⟩ := reord_surj b o ho hl
    rw [ren_next b hb o ho] at h
    exact ⟨τ, reord_inj b o ho (next_len b τ) ht h, rfl⟩
  · rintro ⟨τ, h, rfl⟩
    rw [ren_next b hb o ho, h]
theorem ren_all : (b.ren o).all = srt (b.all.map (reord o)) := by
  refine rise_ext (all_rise _) (srt_rise ?_) fun υ => ?_
  · rw [List.nodup_iff_pairwise_ne, List.pairwise_map]
    refine (all_rise b).imp_of_mem fun {σ τ} hs ht h e => ?_
    have := reord_inj b o ho (steady_len (mem_all.mp hs)) (steady_len (mem_all.mp ht)) e
    subst this
    exact tlt_irr _ h
  · rw [mem_all, ren_steady b hb o ho, srt_mem, List.mem_map]
    constructor
    · rintro ⟨τ, h, rfl⟩
      exact ⟨τ, mem_all.mpr h, rfl⟩
    · rintro ⟨τ, h, rfl⟩
      exact ⟨τ, mem_all.mp h, rfl⟩
theorem ren_rnds : ∀ (k : Nat) (τ : Tel), τ.length = b.length → rnds (b.ren o) k (reord o τ) = (rnds b k τ).map (reord o)
  | 0, τ, _ => rfl
  | k + 1, τ, h => by
    unfold rnds
    have ih := ren_rnds k (b.next τ) (next_len b τ)
    rw [ren_next b hb o ho]
    by_cases q : b.next τ = τ
    · rw [if_pos q, if_pos (by rw [q])]
      rfl
    · rw [if_neg q, if_neg fun e => q (reord_inj b o ho (next_len b τ) h e), ih]
      rfl
theorem ren_low : (b.ren o).low = reord o b.low := tel_ext (by rw [low_len, ren_len b o ho, reord_len b o ho]) fun j => by
  rw [low_getN]
  by_cases hj : j < b.length
  · obtain ⟨i, e⟩ : ∃ i, o[j]? = some i := ⟨_, List.getElem?_eq_getElem (by rw [o_len b o ho]; exact hj)⟩
    rw [reord_get o _ e, low_getN]
  · rw [List.getD_eq_getElem?_getD, List.getElem?_eq_none (by rw [reord_len b o ho]; omega)]
    rfl
theorem ren_rounds : (rnds (b.ren o) (b.ren o).length (b.ren o).low).length = (rnds b b.length b.low).length := by
  rw [ren_low b hb o ho, ren_len b o ho, ren_rnds b hb o ho _ _ (low_len b), List.length_map]
theorem ren_lst : (b.ren o).lst = reord o b.lst := by
  refine lst_uniq b b hb hb ((ren_steady b hb o ho).mpr ⟨_, lst_fix b, rfl⟩) fun υ h => ?_
  obtain ⟨τ, h1, rfl⟩ := (ren_steady b hb o ho).mp h
  rw [bel_reord b o ho (lst_len b) (steady_len h1)]
  exact lst_le b h1
theorem ren_setl : (b.ren o).setl = reord o b.setl := by
  have ib := setl_intr b
  refine setl_uniq _ ⟨(ren_steady b hb o ho).mpr ⟨_, ib.1, rfl⟩, fun υ h => ?_⟩ fun υ h => ?_
  · obtain ⟨τ, h1, rfl⟩ := (ren_steady b hb o ho).mp h
    rw [tog_reord b o ho (steady_len ib.1) (steady_len h1)]
    exact ib.2 τ h1
  · obtain ⟨τ, h1, rfl⟩ := (ren_steady b hb o ho).mp h.1
    rw [bel_reord b o ho (steady_len h1) (steady_len ib.1)]
    refine setl_top b ⟨h1, fun σ hs => ?_⟩
    have := h.2 (reord o σ) ((ren_steady b hb o ho).mpr ⟨_, hs, rfl⟩)
    rwa [tog_reord b o ho (steady_len h1) (steady_len hs)] at this
theorem ren_rch {j i : Nat} (h : o[j]? = some i) {k : Nat} : Rch (b.ren o) j k ↔ ∃ k', Rch b i k' ∧ k = posn o k' := by
  have hi : i < b.length := (o_mem b o ho).mp (List.mem_of_getElem? h)
  constructor
  · intro r
    induction r with
    | one q =>
      rw [ren_at b o ho h] at q
      obtain ⟨k', hk, e⟩ := (led_spk (posG_perm o) _ _).mp q
      exact ⟨k', .one hk, e.symm⟩
    | more h1 h2 ih =>
      obtain ⟨k', hk, rfl⟩ := ih
      rw [ren_at b o ho (o_pos b o ho (rch_lt hb hi hk))] at h2
      obtain ⟨k'', hk', e⟩ := (led_spk (posG_perm o) _ _).mp h2
      exact ⟨k'', .more hk hk', e.symm⟩
  · rintro ⟨k', r, rfl⟩
    induction r with
    | one q =>
      refine .one ?_
      rw [ren_at b o ho h]
      exact (led_spk (posG_perm o) _ _).mpr ⟨_, q, rfl⟩
    | more h1 h2 ih =>
      refine .more ih ?_
      rw [ren_at b o ho (o_pos b o ho (rch_lt hb hi h1))]
      exact (led_spk (posG_perm o) _ _).mpr ⟨_, h2, rfl⟩
theorem ren_reach {j i : Nat} (h : o[j]? = some i) : rchL (b.ren o) j = srtN ((rchL b i).map (posn o)) := by
  have hi : i < b.length := (o_mem b o ho).mp (List.mem_of_getElem? h)
  have hj : j < (b.ren o).length := by
    rw [ren_len b o ho, ← o_len b o ho]
    exact (List.getElem?_eq_some_iff.mp h).1
  have inj : ∀ x ∈ rchL b i, x < b.length := fun x hx => rch_lt hb hi ((mem_rchL hb hi).mp hx)
  refine nat_rise_ext (rchL_rise _ _) (srtN_rise ?_) fun k => ?_
  · rw [List.nodup_iff_pairwise_ne, List.pairwise_map]
    refine (rchL_rise b i).imp_of_mem fun {x y} hx hy q e => ?_
    have := pos_inj b o ho (inj x hx) (inj y hy) e
    omega
  · rw [mem_rchL (ren_wf b hb o ho) hj, ren_rch b hb o ho h, srtN_mem, List.mem_map]
    constructor
    · rintro ⟨k', r, rfl⟩
      exact ⟨k', (mem_rchL hb hi).mpr r, rfl⟩
    · rintro ⟨k', r, rfl⟩
      exact ⟨k', (mem_rchL hb hi).mp r, rfl⟩
theorem ren_kind {j i : Nat} (h : o[j]? = some i) : kindT (b.ren o) j = kindT b i := by
  refine kind_ext ?_ (ws_ext b b hb hb fun w => ?_)
  · rw [ren_lst b hb o ho, reord_get o _ h]
  · constructor
    · rintro ⟨υ, q, e⟩
      obtain ⟨τ, h1, rfl⟩ := (ren_steady b hb o ho).mp q
      rw [reord_get o _ h] at e
      exact ⟨τ, h1, e⟩
    · rintro ⟨τ, q, e⟩
      exact ⟨reord o τ, (ren_steady b hb o ho).mpr ⟨_, q, rfl⟩, by rw [reord_get o _ h]; exact e⟩
end
end SR

set_option linter.all false
set_option autoImplicit false
set_option Elab.async false
set_option maxRecDepth 100000
/-! Th22: a book turned about. -/
namespace SR
def flip (τ : Tel) : Tel := τ.map Wo.not
theorem Wo.not_not (w : Wo) : w.not.not = w := by cases w <;> rfl
theorem flip_flip (τ : Tel) : flip (flip τ) = τ := by
  unfold flip
  rw [List.map_map]
  conv => rhs; rw [← List.map_id τ]
  exact List.map_congr_left fun w _ => Wo.not_not w
theorem flip_len (τ : Tel) : (flip τ).length = τ.length := List.length_map _
theorem flip_get (τ : Tel) (i : Nat) : (flip τ).getD i .n = (τ.getD i .n).not := by
  unfold flip
  rw [List.getD_eq_getElem?_getD, List.getD_eq_getElem?_getD, List.getElem?_map]
  cases τ[i]? <;> rfl
/-- turned about -/
def Sy.abt : Sy → Sy
  | .yes => .no
  | .no => .yes
  | .says i => .says i
  | .neg a => .neg a.abt
  | .and a b => .or a.abt b.abt
  | .or a b => .and a.abt b.abt
  | .many lo hi row => if row.length < lo then .yes else .neg (.many (row.length - hi) (row.length - lo) row)
theorem count3 (ws : List Wo) : ws.count .f + ws.count .n + ws.count .t = ws.length := by
  induction ws with
  | nil => rfl
  | cons w ws ih => rw [List.count_cons, List.count_cons, List.count_cons, List.length_cons]; cases w <;> simp <;> omega
theorem count_not (ws : List Wo) : (ws.map Wo.not).count .t = ws.count .f ∧ (ws.map Wo.not).count .n = ws.count .n := by
  induction ws with
  | nil => exact ⟨rfl, rfl⟩
  | cons w ws ih =>
    rw [List.map_cons, List.count_cons, List.count_cons, List.count_cons, List.count_cons, ih.1, ih.2]
    cases w <;> exact ⟨rfl, rfl⟩
theorem ofMany_abt (lo hi : Nat) (ws : List Wo) (h : lo ≤ ws.length) : ofMany (ws.length - hi) (ws.length - lo) ws = ofMany lo hi (ws.map Wo.not) := by
  obtain ⟨h1, h2⟩ := count_not ws
  have h3 := count3 ws
  unfold ofMany
  rw [h1, h2]
  by_cases q : lo ≤ ws.count .f ∧ ws.count .f + ws.count .n ≤ hi
  · rw [if_pos q, if_pos (by omega)]
  · rw [if_neg q, if_neg (by omega)]
    by_cases r : ws.count .f + ws.count .n < lo ∨ hi < ws.count .f
    · rw [if_pos r, if_pos (by omega)]
    · rw [if_neg r, if_neg (by omega)]
theorem abt_w (τ : Tel) : ∀ s : Sy, s.abt.w (flip τ) = (s.w τ).not
  | .yes => rfl
  | .no => rfl
  | .says i => flip_get τ i
  | .neg a => by simp only [Sy.abt, Sy.w, abt_w τ a]
  | .and a b => by
    simp only [Sy.abt, Sy.w, abt_w τ a, abt_w τ b]
    cases a.w τ <;> cases b.w τ <;> rfl
  | .or a b => by
    simp only [Sy.abt, Sy.w, abt_w τ a, abt_w τ b]
    cases a.w τ <;> cases b.w τ <;> rfl
  | .many lo hi row => by
    have e : (row.map fun r => (flip τ).getD r .n) = (row.map fun r => τ.getD r .n).map Wo.not := by
      rw [List.map_map]
      exact List.map_congr_left fun r _ => flip_get τ r
    simp only [Sy.abt]
    by_cases q : row.length < lo
    · rw [if_pos q]
      have hl : (row.map fun r => τ.getD r .n).length = row.length := List.length_map _
      have h3 := count3 (row.map fun r => τ.getD r .n)
      have : ofMany lo hi (row.map fun r => τ.getD r .n) = .f := by
        unfold ofMany
        rw [if_neg (by omega), if_pos (by omega)]
      simp only [Sy.w, this]
      rfl
    · rw [if_neg q]
      simp only [Sy.w, e]
      have hl : ((row.map fun r => τ.getD r .n).map Wo.not).length = row.length := by simp
      have := ofMany_abt lo hi ((row.map fun r => τ.getD r .n).map Wo.not) (by omega)
      rw [hl] at this
      rw [this]
      congr 2
      rw [List.map_map]
      conv => rhs; rw [← List.map_id (row.map fun r => τ.getD r .n)]
      exact List.map_congr_left fun w _ => Wo.not_not w
theorem abt_wf (m : Nat) : ∀ s : Sy, s.wf m → s.abt.wf m
  | .yes, _ => trivial
  | .no, _ => trivial
  | .says i, h => h
  | .neg a, h => abt_wf m a h
  | .and a b, h => ⟨abt_wf m a h.1, abt_wf m b h.2⟩
  | .or a b, h => ⟨abt_wf m a h.1, abt_wf m b h.2⟩
  | .many lo hi row, h => by
    have hr := rise_len m row 0 (fun r hr => ⟨Nat.zero_le _, h.2.2.1 r hr⟩) h.2.2.2
    have h1 := h.1
    simp only [Sy.abt]
    split
    · trivial
    · exact ⟨by omega, by omega, h.2.2.1, h.2.2.2⟩
def Bk.abt (b : Bk) : Bk := b.map Sy.abt
section
variable (b : Bk)
theorem babt_len : b.abt.length = b.length := List.length_map _
theorem babt_wf (h : b.wf) : b.abt.wf := by
  have hl := babt_len b
  refine ⟨by rw [hl]; exact h.pos, by rw [hl]; exact h.six, fun s hs => ?_⟩
  obtain ⟨t, ht, rfl⟩ := List.mem_map.mp hs
  rw [hl]
  exact abt_wf _ t (h.all t ht)
theorem babt_next (τ : Tel) : b.abt.next (flip τ) = flip (b.next τ) := by
  unfold Bk.abt Bk.next flip
  rw [List.map_map, List.map_map]
  exact List.map_congr_left fun s _ => abt_w τ s
theorem babt_steady {υ : Tel} : b.abt.next υ = υ ↔ b.next (flip υ) = flip υ := by
  have h := babt_next b (flip υ)
  rw [flip_flip] at h
  rw [h]
  constructor
  · intro k
    have := congrArg flip k
    rwa [flip_flip] at this
  · intro k
    rw [k, flip_flip]
theorem babt_all : b.abt.all = srt (b.all.map flip) := by
  refine rise_ext (all_rise _) (srt_rise ?_) fun υ => ?_
  · rw [List.nodup_iff_pairwise_ne, List.pairwise_map]
    refine (all_rise b).imp fun {σ τ} h e => ?_
    have := congrArg flip e
    rw [flip_flip, flip_flip] at this
    subst this
    exact tlt_irr _ h
  · rw [mem_all, babt_steady, srt_mem, List.mem_map]
    constructor
    · intro h
      exact ⟨flip υ, mem_all.mpr h, flip_flip υ⟩
    · rintro ⟨τ, h, rfl⟩
      rw [flip_flip]
      exact mem_all.mp h
theorem le_not (a c : Wo) : a.not.le c.not = a.le c := by cases a <;> cases c <;> rfl
theorem comp_not (a c : Wo) : a.not.comp c.not = a.comp c := by cases a <;> cases c <;> rfl
theorem bel_flip (σ τ : Tel) : bel (flip σ) (flip τ) = bel σ τ := by
  unfold bel flip
  rw [List.zip_map, List.all_map]
  congr 1
  funext p
  exact le_not p.1 p.2
theorem tog_flip (σ τ : Tel) : tog (flip σ) (flip τ) = tog σ τ := by
  unfold tog flip
  rw [List.zip_map, List.all_map]
  congr 1
  funext p
  exact comp_not p.1 p.2
theorem babt_lst : b.abt.lst = flip b.lst := by
  have h1 : b.abt.next (flip b.lst) = flip b.lst := by rw [babt_steady, flip_flip]; exact lst_fix b
  refine bel_anti (by rw [lst_len, babt_len, flip_len, lst_len]) (lst_le _ h1) ?_
  have h2 := (babt_steady b).mp (lst_fix b.abt)
  have := lst_le b h2
  rw [← bel_flip, flip_flip] at this
  exact this
theorem babt_setl : b.abt.setl = flip b.setl := by
  have ib := setl_intr b
  refine setl_uniq _ ⟨by rw [babt_steady, flip_flip]; exact ib.1, fun υ h => ?_⟩ fun υ h => ?_
  · have := ib.2 _ ((babt_steady b).mp h)
    rwa [← tog_flip, flip_flip] at this
  · have := setl_top b (τ := flip υ) ⟨(babt_steady b).mp h.1, fun σ hs => by
      have := h.2 (flip σ) (by rw [babt_steady, flip_flip]; exact hs)
      rwa [← tog_flip, flip_flip] at this⟩
    rwa [← bel_flip, flip_flip] at this
theorem mem_ws_abt (i : Nat) (w : Wo) : w ∈ wsOf b.abt i ↔ w.not ∈ wsOf b i := by
  rw [mem_wsOf, mem_wsOf]
  constructor
  · rintro ⟨τ, h, rfl⟩
    exact ⟨flip τ, (babt_steady b).mp h, flip_get τ i⟩
  · rintro ⟨τ, h, e⟩
    refine ⟨flip τ, by rw [babt_steady, flip_flip]; exact h, ?_⟩
    rw [flip_get, e, Wo.not_not]
theorem ws_self (i : Nat) : wsOf b i = signs.filter fun w => decide (w ∈ wsOf b i) := by
  have e : wsOf b i = signs.filter fun w => b.all.any fun τ => decide (τ.getD i .n = w) := rfl
  conv => lhs; rw [e]
  refine List.filter_congr fun w hw => ?_
  rw [Bool.eq_iff_iff, decide_eq_true_eq, e, List.mem_filter]
  exact ⟨fun h => ⟨hw, h⟩, fun h => h.2⟩
theorem babt_kind (i : Nat) : kindT b.abt i = kindT b i := by
  have h1 : (b.abt.lst.getD i .n ≠ .n) ↔ (b.lst.getD i .n ≠ .n) := by
    rw [babt_lst, flip_get]
    cases b.lst.getD i .n <;> simp [Wo.not]
  have hf := mem_ws_abt b i .f
  have hn := mem_ws_abt b i .n
  have ht := mem_ws_abt b i .t
  have s1 := ws_self b i
  have s2 := ws_self b.abt i
  have f1 : wsOf b i = (if Wo.f ∈ wsOf b i then [.f] else []) ++ (if Wo.n ∈ wsOf b i then [.n] else []) ++ (if Wo.t ∈ wsOf b i then [.t] else []) := by
    conv => lhs; rw [s1]
    by_cases a : Wo.f ∈ wsOf b i <;> by_cases c : Wo.n ∈ wsOf b i <;> by_cases d : Wo.t ∈ wsOf b i <;> simp [signs, a, c, d]
  have f2 : wsOf b.abt i = (if Wo.f ∈ wsOf b.abt i then [.f] else []) ++ (if Wo.n ∈ wsOf b.abt i then [.n] else []) ++ (if Wo.t ∈ wsOf b.abt i then [.t] else []) := by
    conv => lhs; rw [s2]
    by_cases a : Wo.f ∈ wsOf b.abt i <;> by_cases c : Wo.n ∈ wsOf b.abt i <;> by_cases d : Wo.t ∈ wsOf b.abt i <;> simp [signs, a, c, d]
  have g1 : wsOf b.abt i = [.n] ↔ wsOf b i = [.n] := by
    rw [f1, f2]
    simp only [hf, hn, ht, Wo.not]
    by_cases a : Wo.f ∈ wsOf b i <;> by_cases c : Wo.n ∈ wsOf b i <;> by_cases d : Wo.t ∈ wsOf b i <;> simp [a, c, d]
  have g2 : wsOf b.abt i = [.f, .n, .t] ↔ wsOf b i = [.f, .n, .t] := by
    rw [f1, f2]
    simp only [hf, hn, ht, Wo.not]
    by_cases a : Wo.f ∈ wsOf b i <;> by_cases c : Wo.n ∈ wsOf b i <;> by_cases d : Wo.t ∈ wsOf b i <;> simp [a, c, d]
  unfold kindT
  simp only [h1, g1, g2]
end
end SR

set_option linter.all false
set_option autoImplicit false
set_option Elab.async false
set_option maxRecDepth 100000
/-! Th31: the program's renumbered and turned about books. -/
namespace SR
theorem cutT1 {α : Type} (xs : List α) : cut xs none (some 1) = xs.take 1 := cut_to xs 1
theorem cutT3 {α : Type} (xs : List α) : cut xs none (some 3) = xs.take 3 := cut_to xs 3
theorem rowLen {m lo hi : Nat} {row : List Nat} (h : (Sy.many lo hi row).wf m) : row.length ≤ m := by
  have := rise_len m row 0 (fun r hr => ⟨Nat.zero_le _, h.2.2.1 r hr⟩) h.2.2.2
  omega
theorem name_ix {ns : List Nat} {i j : Nat} (h : ns[i]? = some j) : dIx (.lst (nums ns)) (.int (i : Nat)) = .ok (.int (j : Nat)) := by
  simp [h]
theorem p_led_eq (M : Nat) (hM : M ≤ 6) (ns : List Nat) (f : Nat → Nat) (hf : ∀ i, i < M → ns[i]? = some (f i)) : ∀ (k n : Nat) (s : Sy), s.ok M k → k ≤ n → p_led n [s.d, .lst (nums ns)] = .ok (s.led f (fun row => srtN (row.map f))).d
  | 0, _, _, h, _ => h.elim
  | k + 1, 0, _, _, h => absurd h (by omega)
  | k + 1, n + 1, s, h, hk => by
    cases s with
    | yes => simp [p_led, Sy.led, cutT1]
    | no => simp [p_led, Sy.led, cutT1]
    | says i =>
      have h1 : (nums ns)[i]? = some (.int (f i : Nat)) := by rw [nums, List.getElem?_map, hf i h]; rfl
      generalize nums ns = O at h1 ⊢
      simp [p_led, Sy.led, h1]
    | neg a =>
      have h1 := p_led_eq M hM ns f hf k n a h (by omega)
      generalize nums ns = O at h1 ⊢
      simp [p_led, Sy.led, h1, compM, cutT1]
    | and a b =>
      have h1 := p_led_eq M hM ns f hf k n a h.1 (by omega)
      have h2 := p_led_eq M hM ns f hf k n b h.2 (by omega)
      generalize nums ns = O at h1 h2 ⊢
      simp [p_led, Sy.led, h1, h2, compM, cutT1]
    | or a b =>
      have h1 := p_led_eq M hM ns f hf k n a h.1 (by omega)
      have h2 := p_led_eq M hM ns f hf k n b h.2 (by omega)
      generalize nums ns = O at h1 h2 ⊢
      simp [p_led, Sy.led, h1, h2, compM, cutT1]
    | many lo hi row =>
      have hr := rowLen (m := M) (lo := lo) (hi := hi) (row := row) h
      have hr' : row.length ≤ 16777216 := by omega
      have c := comp_smap (fun r : Nat => D.int r) row (fun r => D.int (f r : Nat)) (j := 3) (sr := src (bin dIx (var 0) (con (.int 3)))) (e := bin dIx (var 1) (var 3)) (ρ := [.pl (Sy.many lo hi row).d, .pl (.lst (nums ns)), .dead, .dead]) (by simp) hr' (fun r hr => by
        have h1 := name_ix (hf r (h.2.2.1 r hr))
        generalize nums ns = O at h1 ⊢
        simp [h1, -dIx])
      have hs := sort_nums (row.map f) (by rw [List.length_map]; omega)
      have e : (row.map fun r => D.int (f r : Nat)) = nums (row.map f) := by rw [nums, List.map_map]; rfl
      rw [e] at c
      simp only [Sy.d] at c
      generalize hR : nums row = R at c
      generalize nums ns = O at c ⊢
      have hd : (Sy.many lo hi row).d = .tup [.str [109, 97, 110, 121], .int lo, .int hi, .tup R] := by rw [← hR]; rfl
      have hd2 : (Sy.led f (fun row => srtN (row.map f)) (.many lo hi row)).d = .tup [.str [109, 97, 110, 121], .int lo, .int hi, .tup (nums (srtN (row.map f)))] := rfl
      rw [hd, hd2]
      generalize nums (srtN (row.map f)) = S at hs ⊢
      generalize nums (row.map f) = T at hs c
      simp [p_led, c, hs, cutT3, -comp]
theorem len_nums (l : List Nat) (h : l.length ≤ 1000) : dLen (.tup (nums l)) = .ok (.int (l.length : Nat)) := by
  have : l.length ≤ 16777216 := by omega
  simp [nums, this]
theorem p_about_eq (M : Nat) (hM : M ≤ 6) : ∀ (k n : Nat) (s : Sy), s.ok M k → k ≤ n → p_about n [s.d] = .ok s.abt.d
  | 0, _, _, h, _ => h.elim
  | k + 1, 0, _, _, h => absurd h (by omega)
  | k + 1, n + 1, s, h, hk => by
    cases s with
    | yes => simp [p_about, Sy.abt]
    | no => simp [p_about, Sy.abt]
    | says i => simp [p_about, Sy.abt]
    | neg a =>
      have h1 := p_about_eq M hM k n a h (by omega)
      simp [p_about, Sy.abt, h1, compM, cutT1]
    | and a b =>
      have h1 := p_about_eq M hM k n a h.1 (by omega)
      have h2 := p_about_eq M hM k n b h.2 (by omega)
      simp [p_about, Sy.abt, h1, h2, compM, cutT1]
    | or a b =>
      have h1 := p_about_eq M hM k n a h.1 (by omega)
      have h2 := p_about_eq M hM k n b h.2 (by omega)
      simp [p_about, Sy.abt, h1, h2, compM, cutT1]
    | many lo hi row =>
      have hr := rowLen (m := M) (lo := lo) (hi := hi) (row := row) h
      have hln := len_nums row (by omega)
      have hd : (Sy.many lo hi row).d = .tup [.str [109, 97, 110, 121], .int lo, .int hi, .tup (nums row)] := rfl
      have hmx : dMax2 (.int 0) (.int ((row.length : Int) - (hi : Int))) = .ok (.int ((row.length - hi : Nat) : Int)) := by
        unfold dMax2
        simp only
        congr 2
        split <;> omega
      rw [hd]
      by_cases q : row.length < lo
      · have hgt : dGt (.int (lo : Nat)) (.int (row.length : Nat)) = .ok (.bl true) := by simp; omega
        have ha : (Sy.many lo hi row).abt = .yes := by show (if _ then _ else _) = _; rw [if_pos q]
        rw [ha]
        generalize nums row = R at hln ⊢
        simp [p_about, hln, hgt, -dLen, -dGt]
      · have hgt : dGt (.int (lo : Nat)) (.int (row.length : Nat)) = .ok (.bl false) := by simp; omega
        have ha : (Sy.many lo hi row).abt = .neg (.many (row.length - hi) (row.length - lo) row) := by show (if _ then _ else _) = _; rw [if_neg q]
        have hsb : ((row.length : Int) - (lo : Int)) = ((row.length - lo : Nat) : Int) := by omega
        have hd2 : (Sy.neg (.many (row.length - hi) (row.length - lo) row)).d = .tup [.str [110, 111, 116], .tup [.str [109, 97, 110, 121], .int ((row.length - hi : Nat) : Int), .int ((row.length - lo : Nat) : Int), .tup (nums row)]] := rfl
        rw [ha, hd2]
        generalize nums row = R at hln ⊢
        simp [p_about, hln, hgt, hmx, hsb, -dLen, -dGt, -dMax2]
/-! ### the whole book -/
theorem turned_comp (b : Bk) (hb : b.ok) (ρ : Env) (h0 : ρ = [.pl (bk b), .dead, .dead]) : comp (src (var 0)) [2] (gSet 2) yes (callE (p_about 6) (acons (var 2) anil)) ρ = .ok (.lst (b.abt.map Sy.d)) := by
  have h6 := hb.six
  subst h0
  rw [comp_smap (fun s : Sy => s.d) b (fun s => s.abt.d) (by simp [bk]) (by omega) (fun s hs => by
    have h1 := p_about_eq b.length h6 4 6 s (hb.all s hs) (by omega)
    simp [h1])]
  unfold Bk.abt
  rw [List.map_map]
  rfl
theorem about_book_eq (b : Bk) (hb : b.ok) : p_turned_about [bk b] = if b.abt.shal then .ok (bk b.abt) else .rs .tooDeep := by
  have hl := look_eq b hb
  have hc := turned_comp b hb _ rfl
  have hd := book_dec b.abt (babt_wf b (wf_of hb))
  have hdt : dTuple (.lst (b.abt.map Sy.d)) = .ok (bk b.abt) := rfl
  unfold p_turned_about
  simp only [runB, List.map_cons, List.map_nil, List.length_cons, List.length_nil, List.cons_append, List.nil_append, List.replicate, sSeq, sExp, callE, acons, anil, var, List.getElem?_cons_succ, List.getElem?_cons_zero, ok_bind, hl, ofE]
  simp only [Nat.zero_add, Nat.reduceAdd, Nat.reduceSub, List.replicate, List.cons_append, List.nil_append, sSet, un, hc, ok_bind, hdt, ofE, List.set]
  simp only [sIf, notT, tst, callE, acons, anil, var, List.getElem?_cons_succ, List.getElem?_cons_zero, ok_bind, hd]
  cases b.abt.shal <;> rfl
/-! ### a new order -/
theorem sorted_order (o : List Nat) (m : Nat) (ho : o.Perm (List.range m)) : srtN o = List.range m :=
  nat_rise_ext (srtN_rise (ho.nodup_iff.mpr List.nodup_range)) List.pairwise_lt_range fun j => by rw [srtN_mem, ho.mem_iff]
theorem tu_ix (o : List Nat) (i : Nat) (hi : i ∈ o) : dTIx (.tup (nums o)) (.int (i : Nat)) = .ok (.int (posn o i : Nat)) := by
  have h4 : (nums o).findIdx? (fun x => D.eq x (.int (i : Nat))) = some (posn o i) := by
    rw [nums, List.findIdx?_map]
    unfold posn
    have e : ((fun x => D.eq x (.int (i : Nat))) ∘ fun i : Nat => D.int i) = fun x => x == i := by
      funext x
      simp only [Function.comp_apply, deq_int_int]
      rw [Bool.eq_iff_iff]
      simp
      omega
    rw [e, List.idxOf, List.findIdx_eq_getD_findIdx?]
    cases q : o.findIdx? (fun x => x == i) with
    | some j => rfl
    | none =>
      rw [List.findIdx?_eq_none_iff] at q
      simpa using q i hi
  have h5 : (nums o).all D.isIn = true := by
    rw [List.all_eq_true]
    intro x hx
    obtain ⟨j, _, rfl⟩ := List.mem_map.mp hx
    rfl
  unfold dTIx
  simp only [h5, h4, if_true]
theorem tu_is (o : List Nat) : isTuI (.tup (nums o)) = true := by
  unfold isTuI
  rw [List.all_eq_true]
  intro x hx
  obtain ⟨j, _, rfl⟩ := List.mem_map.mp hx
  rfl
theorem sortS_nums (l : List Nat) (h : l.length ≤ 100000) : dSortS (.tup (nums l)) = .ok (.lst (nums (srtN l))) := sort_nums l h
section
variable (b : Bk) (o : List Nat) (ho : o.Perm (List.range b.length))
include ho
theorem renum_eq (hb : b.ok) : p_renumbered [bk b, .tup (nums o)] = .ok (bk (b.ren o)) := by
  have h6 := hb.six
  have hl := look_eq b hb
  have hlb := len_bk b h6
  have hol := o_len b o ho
  have hom : ∀ i ∈ o, i < b.length := fun i hi => (o_mem b o ho).mp hi
  have hsm := small62_nat' b.length (by omega)
  have hs := sortS_nums o (by omega)
  rw [sorted_order o b.length ho] at hs
  have hisi : dIsi .tuple (.tup (nums o)) = .ok (.bl true) := rfl
  have c1 : comp (src (var 1)) [3] (gSet 3) (notT (tst (callE p_is_within (acons (var 3) (acons (con (.int 0)) (acons (bin dSub (un dLen (var 0)) (con (.int 1))) anil)))))) (var 3) [.pl (bk b), .pl (.tup (nums o)), .dead, .dead] = .ok (.lst []) := by
    rw [comp_src (fun i : Nat => D.int i) o (fun _ => false) (fun i => D.int i) (by simp [nums]) (by omega) (fun i hi => by
      have hib := hom i hi
      have hw := within_eq (i : Nat) 0 ((b.length : Int) - 1)
      rw [decide_eq_true (by omega : (0 : Int) ≤ (i : Nat)), decide_eq_true (by omega : ((i : Nat) : Int) ≤ (b.length : Int) - 1)] at hw
      have hsb : dSub (.int (b.length : Nat)) (.int 1) = .ok (.int ((b.length : Int) - 1)) := by simp
      simp only [notT, tst, callE, acons, anil, bin, un, con, var, List.set, List.getElem?_cons_succ, List.getElem?_cons_zero, ok_bind, hlb, hsb, hw]
      rfl) (fun _ _ h => by cases h)]
    rw [List.filter_eq_nil_iff.mpr fun _ _ => by simp]
    rfl
  have c2 : comp (srcR1 (un dLen (var 0))) [3] (gSet 3) yes (meth isTuI dTIx (var 1) (var 3)) [.pl (bk b), .pl (.tup (nums o)), .dead, .dead] = .ok (.lst (nums ((List.range b.length).map (posn o)))) := by
    rw [comp_smap (fun i : Nat => D.int i) (List.range b.length) (fun i => D.int (posn o i : Nat)) (by simp [hlb, hsm, rng_0', -dLen]) (by simp; omega) (fun i hi => by
      have h1 := tu_ix o i ((o_mem b o ho).mpr (List.mem_range.mp hi))
      have h2 := tu_is o
      generalize nums o = O at h1 h2 ⊢
      simp [h1, h2, -isTuI])]
    rw [nums, List.map_map]; rfl
  have c3 : comp (src (var 1)) [3] (gSet 3) yes (callE (p_led 6) (acons (bin dIx (var 0) (var 3)) (acons (var 2) anil))) [.pl (bk b), .pl (.tup (nums o)), .pl (.lst (nums ((List.range b.length).map (posn o)))), .dead] = .ok (.lst ((b.ren o).map Sy.d)) := by
    rw [comp_smap (fun i : Nat => D.int i) o (fun i => ((b.at i).led (posn o) (posG o)).d) (by simp [nums]) (by omega) (fun i hi => by
      have h1 := bk_ix b (hom i hi)
      have h2 := p_led_eq b.length h6 ((List.range b.length).map (posn o)) (posn o) (fun j hj => by rw [List.getElem?_map, List.getElem?_range hj]; rfl) 4 6 (b.at i) (at_ok hb (hom i hi)) (by omega)
      generalize nums ((List.range b.length).map (posn o)) = N at h2 ⊢
      simp only [callE, acons, anil, bin, var, List.set, List.getElem?_cons_succ, List.getElem?_cons_zero, ok_bind, h1, h2]
      rfl)]
    unfold Bk.ren
    rw [List.map_map]
    rfl
  have hne := nums_ne (List.range b.length) (List.range b.length)
  rw [decide_eq_true rfl] at hne
  have hrg : lstRg (srcR1 (un dLen (var 0))) [.pl (bk b), .pl (.tup (nums o)), .dead, .dead] = .ok (.lst (nums (List.range b.length))) := by
    simp [hlb, hsm, rng_0', nums, -dLen]; omega
  have hdt : dTuple (.lst ((b.ren o).map Sy.d)) = .ok (bk (b.ren o)) := rfl
  generalize nums ((List.range b.length).map (posn o)) = N at c2 c3
  generalize nums (List.range b.length) = R at hs hrg hne
  unfold p_renumbered
  simp only [runB, List.map_cons, List.map_nil, List.length_cons, List.length_nil, List.cons_append, List.nil_append, List.replicate, sSeq, sExp, callE, acons, anil, var, List.getElem?_cons_succ, List.getElem?_cons_zero, ok_bind, hl, ofE]
  have s1 : (sIf (orT (notT (tst (un (dIsi .tuple) (var 1)))) (tst (comp (src (var 1)) [3] (gSet 3) (notT (tst (callE p_is_within (acons (var 3) (acons (con (.int 0)) (acons (bin dSub (un dLen (var 0)) (con (.int 1))) anil)))))) (var 3)))) (sRs .badOrder) sNx) [.pl (bk b), .pl (.tup (nums o)), .dead, .dead] = .nx [.pl (bk b), .pl (.tup (nums o)), .dead, .dead] := by
    generalize comp (src (var 1)) [3] (gSet 3) (notT (tst (callE p_is_within (acons (var 3) (acons (con (.int 0)) (acons (bin dSub (un dLen (var 0)) (con (.int 1))) anil)))))) (var 3) = C at c1 ⊢
    have ht : ∀ v, dTruth (.bl v) = .ok v := fun v => rfl
    have ht2 : dTruth (.lst []) = .ok false := rfl
    simp only [sIf, orT, notT, tst, un, var, List.getElem?_cons_succ, List.getElem?_cons_zero, ok_bind, hisi, ht, c1, ht2, Bool.not_true, Bool.false_eq_true, if_false, sNx]
  have s2 : (sIf (tstB (bin dNe (un dSortS (var 1)) (lstRg (srcR1 (un dLen (var 0)))))) (sRs .badOrder) sNx) [.pl (bk b), .pl (.tup (nums o)), .dead, .dead] = .nx [.pl (bk b), .pl (.tup (nums o)), .dead, .dead] := by
    simp only [sIf, tstB, bin, hrg]
    simp only [un, var, List.getElem?_cons_succ, List.getElem?_cons_zero, ok_bind, hs, hne, sNx]
    rfl
  simp only [s1, s2, sSet, c2, ofE, List.set, sRet, un, c3, ok_bind, hdt]
/-- the order back -/
theorem inv_get {i : Nat} (hi : i < b.length) : ((List.range b.length).map (posn o))[i]? = some (posn o i) := by rw [List.getElem?_map, List.getElem?_range hi]; rfl
theorem inv_perm : ((List.range b.length).map (posn o)).Perm (List.range b.length) := by
  refine (List.perm_ext_iff_of_nodup ?_ List.nodup_range).mpr fun j => ?_
  · rw [List.nodup_iff_pairwise_ne, List.pairwise_map]
    refine List.Pairwise.imp_of_mem (fun {x y} hx hy h e => ?_) (List.pairwise_lt_range (n := b.length))
    have := pos_inj b o ho (List.mem_range.mp hx) (List.mem_range.mp hy) e
    omega
  · rw [List.mem_map, List.mem_range]
    constructor
    · rintro ⟨i, hi, rfl⟩; exact posn_lt b o ho (List.mem_range.mp hi)
    · intro hj
      have hol := o_len b o ho
      have he : o[j]? = some o[j] := List.getElem?_eq_getElem (by omega)
      exact ⟨o[j], List.mem_range.mpr ((o_mem b o ho).mp (List.getElem_mem (by omega))), pos_o b o ho he⟩
theorem inv_pos {i : Nat} (hi : i < b.length) : posn ((List.range b.length).map (posn o)) (posn o i) = i :=
  pos_o b _ (inv_perm b o ho) (inv_get b o ho hi)
theorem inv_row {row : List Nat} (h1 : ∀ r ∈ row, r < b.length) (h2 : row.Pairwise (· < ·)) : posG ((List.range b.length).map (posn o)) (posG o row) = row := by
  have hp : ((posG o row).map (posn ((List.range b.length).map (posn o)))).Perm row := by
    have a1 := (posG_perm o row).map (posn ((List.range b.length).map (posn o)))
    have a2 : (row.map (posn o)).map (posn ((List.range b.length).map (posn o))) = row := by
      rw [List.map_map]
      conv => rhs; rw [← List.map_id row]
      exact List.map_congr_left fun r hr => inv_pos b o ho (h1 r hr)
    rw [a2] at a1
    exact a1
  refine nat_rise_ext (srtN_rise (hp.nodup_iff.mpr (h2.imp fun {a c} h => Nat.ne_of_lt h))) h2 fun j => ?_
  exact (srtN_mem).trans hp.mem_iff
theorem led_back : ∀ s : Sy, s.wf b.length → (s.led (posn o) (posG o)).led (posn ((List.range b.length).map (posn o))) (posG ((List.range b.length).map (posn o))) = s
  | .yes, _ => rfl
  | .no, _ => rfl
  | .says i, h => by show Sy.says _ = _; rw [inv_pos b o ho h]
  | .neg a, h => by show Sy.neg _ = _; rw [led_back a h]
  | .and a c, h => by show Sy.and _ _ = _; rw [led_back a h.1, led_back c h.2]
  | .or a c, h => by show Sy.or _ _ = _; rw [led_back a h.1, led_back c h.2]
  | .many lo hi row, h => by show Sy.many _ _ _ = _; rw [inv_row b o ho h.2.2.1 h.2.2.2]
theorem ren_back (hb : b.wf) : (b.ren o).ren ((List.range b.length).map (posn o)) = b := by
  show ((List.range b.length).map (posn o)).map _ = b
  rw [List.map_map]
  have : ∀ i ∈ List.range b.length, ((fun j => ((b.ren o).at j).led (posn ((List.range b.length).map (posn o))) (posG ((List.range b.length).map (posn o)))) ∘ posn o) i = b.at i := fun i hi => by
    have hi' := List.mem_range.mp hi
    show ((b.ren o).at (posn o i)).led _ _ = _
    rw [ren_at b o ho (o_pos b o ho hi')]
    exact led_back b o ho _ (at_wf b hb o ho hi')
  rw [List.map_congr_left this]
  refine List.ext_getElem? fun i => ?_
  rw [List.getElem?_map]
  by_cases h : i < b.length
  · rw [List.getElem?_range h, List.getElem?_eq_getElem h]
    show some (b.at i) = _
    unfold Bk.at
    rw [List.getD_eq_getElem?_getD, List.getElem?_eq_getElem h]
    rfl
  · rw [List.getElem?_eq_none (by rw [List.length_range]; omega), List.getElem?_eq_none (by omega)]
    rfl
end
theorem abt2_next (b : Bk) (τ : Tel) : b.abt.abt.next τ = b.next τ := by
  have := babt_next b.abt (flip τ)
  rw [flip_flip, babt_next, flip_flip] at this
  exact this
end SR

set_option linter.all false
set_option autoImplicit false
set_option Elab.async false
set_option maxRecDepth 100000
/-! Th32: data equal to itself; books as data. -/
namespace SR
theorem deq_refl : ∀ d : D, d.lay = true → D.eq d d = true := by
  have go : ∀ n : Nat, ∀ d : D, sizeOf d < n → d.lay = true → D.eq d d = true := by
    intro n
    induction n with
    | zero => intro d h; omega
    | succ n ih =>
      have gos : ∀ xs : List D, sizeOf xs < n + 1 → D.lays xs = true → D.eqs xs xs = true := by
        intro xs
        induction xs with
        | nil => intro _ _; simp
        | cons x xs ihx =>
          intro hs hl
          simp only [D.lays, Bool.and_eq_true] at hl
          have h1 : sizeOf (x :: xs) = 1 + sizeOf x + sizeOf xs := rfl
          rw [deqs_cons, ih x (by omega) hl.1, ihx (by omega) hl.2]; rfl
      intro d hs hl
      cases d with
      | non => simp
      | bl b => simp
      | int i => simp
      | str x => simp
      | tup xs =>
        have h1 : sizeOf (D.tup xs) = 1 + sizeOf xs := by simp
        rw [deq_tup_tup]
        exact gos xs (by omega) (by simpa only [D.lay] using hl)
      | lst xs =>
        have h1 : sizeOf (D.lst xs) = 1 + sizeOf xs := by simp
        rw [deq_lst_lst]
        exact gos xs (by omega) (by simpa only [D.lay] using hl)
      | dct t kvs => simp only [D.lay] at hl; cases hl
      | scr ns => simp only [D.lay] at hl; cases hl
  intro d h
  exact go (sizeOf d + 1) d (by omega) h
theorem dsame_eq (d : D) (h : d.good = true) : dEq d d = .ok (.bl true) := by
  have h2 := deq_refl d (by unfold D.good at h; rw [Bool.and_eq_true] at h; exact h.1)
  unfold dEq
  rw [h, h2]
  simp
theorem dsame_ne (d : D) (h : d.good = true) : dNe d d = .ok (.bl false) := by
  have h2 := deq_refl d (by unfold D.good at h; rw [Bool.and_eq_true] at h; exact h.1)
  unfold dNe
  rw [h, h2]
  simp
theorem lays_nums : ∀ l : List Nat, D.lays (nums l) = true
  | [] => by simp [nums, D.lays]
  | x :: l => by
    have := lays_nums l
    unfold nums at this ⊢
    rw [List.map_cons]
    simp only [D.lays, D.lay, this]
    rfl
theorem deps_nums : ∀ l : List Nat, D.deps (nums l) = 0
  | [] => by simp [nums, D.deps]
  | x :: l => by
    have := deps_nums l
    unfold nums at this ⊢
    rw [List.map_cons]
    simp only [D.deps, D.dep, this]
    rfl
theorem sy_lay : ∀ s : Sy, s.d.lay = true
  | .yes => by decide
  | .no => by decide
  | .says i => by simp [Sy.d, D.lay, D.lays, okC]
  | .neg a => by simp [Sy.d, D.lay, D.lays, okC, sy_lay a]
  | .and a b => by simp [Sy.d, D.lay, D.lays, okC, sy_lay a, sy_lay b]
  | .or a b => by simp [Sy.d, D.lay, D.lays, okC, sy_lay a, sy_lay b]
  | .many lo hi row => by have := lays_nums row; unfold nums at this; simp [Sy.d, nums, D.lay, D.lays, okC, this]
theorem sy_dep : ∀ s : Sy, s.d.dep ≤ s.deep + 1
  | .yes => by decide
  | .no => by decide
  | .says i => by simp [Sy.d, D.dep, D.deps]
  | .neg a => by have := sy_dep a; simp [Sy.d, D.dep, D.deps]; omega
  | .and a b => by have h1 := sy_dep a; have h2 := sy_dep b; simp [Sy.d, D.dep, D.deps]; omega
  | .or a b => by have h1 := sy_dep a; have h2 := sy_dep b; simp [Sy.d, D.dep, D.deps]; omega
  | .many lo hi row => by have := deps_nums row; unfold nums at this; simp [Sy.d, nums, D.dep, D.deps, this]
theorem bk_good (b : Bk) (h : ∀ s ∈ b, s.deep ≤ 60) : (bk b).good = true := by
  have h1 : ∀ l : List Sy, D.lays (l.map Sy.d) = true := by
    intro l
    induction l with
    | nil => simp [D.lays]
    | cons x l ih => rw [List.map_cons]; simp only [D.lays, sy_lay x, ih]; rfl
  have h2 : ∀ l : List Sy, (∀ s ∈ l, s.deep ≤ 60) → D.deps (l.map Sy.d) ≤ 61 := by
    intro l
    induction l with
    | nil => intro _; simp [D.deps]
    | cons x l ih =>
      intro hh
      have a1 := sy_dep x
      have a2 := hh x List.mem_cons_self
      have a3 := ih fun s hs => hh s (List.mem_cons_of_mem _ hs)
      rw [List.map_cons, D.deps]
      exact Nat.max_le.mpr ⟨by omega, a3⟩
  have := h2 b h
  unfold D.good bk
  simp only [D.lay, D.dep, h1, Bool.true_and, decide_eq_true_eq]
  exact decide_eq_true (by omega)
theorem bk_good' (b : Bk) (hb : b.ok) : (bk b).good = true := bk_good b fun s hs => by
  have := ((ok_iff _ _ s).mp (hb.all s hs)).2
  omega
theorem put_same (b : Bk) {i : Nat} (hi : i < b.length) : b.take i ++ [b.at i] ++ b.drop (i + 1) = b := by
  have e : b.at i = b[i] := by unfold Bk.at; rw [List.getD_eq_getElem?_getD, List.getElem?_eq_getElem hi]; rfl
  rw [e, List.append_assoc, List.singleton_append, ← List.drop_eq_getElem_cons hi, List.take_append_drop]
end SR

set_option linter.all false
set_option autoImplicit false
set_option Elab.async false
set_option maxRecDepth 100000
/-! Th33: known worths in a row, what they ground. -/
namespace SR
abbrev KnB := List (Nat × Bool)
def bw (v : Bool) : Wo := if v then .t else .f
def yn (v : Bool) : Sy := if v then .yes else .no
def knP (p : Nat × Bool) : D := .tup [.int (p.1 : Nat), w1 (bw p.2)]
def knD' (kn : KnB) : D := .tup (kn.map knP)
def Bk.knw (b : Bk) (kn : KnB) : Bk := kn.foldl (fun b p => b.set p.1 (yn p.2)) b
structure KnOk (m : Nat) (kn : KnB) : Prop where
  rise : kn.Pairwise fun p q => p.1 < q.1
  lt : ∀ p ∈ kn, p.1 < m
theorem knw_len (b : Bk) (kn : KnB) : (b.knw kn).length = b.length := by
  unfold Bk.knw
  induction kn generalizing b with
  | nil => rfl
  | cons p kn ih => rw [List.foldl_cons, ih, List.length_set]
theorem yn_ok (m : Nat) (v : Bool) : (yn v).ok m 4 := by cases v <;> trivial
theorem set_ok (b : Bk) (hb : b.ok) (i : Nat) (v : Bool) : Bk.ok (b.set i (yn v)) := by
  refine ⟨by rw [List.length_set]; exact hb.pos, by rw [List.length_set]; exact hb.six, fun s hs => ?_⟩
  rw [List.length_set]
  rcases List.mem_or_eq_of_mem_set hs with h | h
  · exact hb.all s h
  · rw [h]; exact yn_ok _ _
theorem knw_ok (b : Bk) (hb : b.ok) (kn : KnB) : (b.knw kn).ok := by
  unfold Bk.knw
  induction kn generalizing b with
  | nil => exact hb
  | cons p kn ih => rw [List.foldl_cons]; exact ih _ (set_ok b hb _ _)
theorem mul_rep (m : Nat) (h : m < 1000) : dMul (.str [110]) (.int (m : Nat)) = .ok (.str (rep [110] (m : Int))) := by
  have h3 : m ≤ 16777216 := by omega
  have q2 : (m : Int) < 1000 := by omega
  have q3 : (-1000 : Int) < m := by omega
  unfold dMul
  simp [h3, q2, q3]
theorem mul_low (b : Bk) (h : b.length ≤ 6) : dMul (.str [110]) (.int (b.length : Nat)) = .ok (tx b.low) := by
  rw [mul_rep b.length (by omega), rep_n]; rfl
theorem kix_eq (v : Bool) : dKIx t_SAYINGS (w1 (bw v)) = .ok (yn v).d := by
  cases v <;> simp [t_SAYINGS, bw, w1, Wo.c, yn, lookT]
theorem with_known_eq (b : Bk) (hb : b.ok) (kn : KnB) (hk : ∀ p ∈ kn, p.1 < b.length) : p_with_known [bk b, knD' kn] = .ok (bk (b.knw kn)) := by
  have h6 := hb.six
  obtain ⟨ρ', e1, s2, s3, rfl⟩ := forL_all (f := forF (gTup [2, 3]) p_with_known_b0) knP (fun k ρ => ∃ s2 s3, ρ = [.own (.lst ((b.knw (kn.take k)).map Sy.d)), .pl (knD' kn), s2, s3])
    kn 0 [.own (.lst (b.map Sy.d)), .pl (knD' kn), .dead, .dead] ⟨_, _, rfl⟩ (fun i p ρ hp hi => by
      obtain ⟨s2, s3, rfl⟩ := hi
      rw [Nat.zero_add]
      have hpk := hk p (List.mem_of_getElem? hp)
      refine ⟨_, .inl ?_, .pl (.int (p.1 : Nat)), .pl (w1 (bw p.2)), rfl⟩
      have ht : kn.take (i + 1) = kn.take i ++ [p] := by rw [List.take_add_one, hp]; rfl
      have hw : b.knw (kn.take (i + 1)) = (b.knw (kn.take i)).set p.1 (yn p.2) := by
        unfold Bk.knw; rw [ht, List.foldl_append]; rfl
      have hl := knw_len b (kn.take i)
      have hset : gTup [2, 3] (knP p) [.own (.lst ((b.knw (kn.take i)).map Sy.d)), .pl (knD' kn), s2, s3] = .ok [.own (.lst ((b.knw (kn.take i)).map Sy.d)), .pl (knD' kn), .pl (.int (p.1 : Nat)), .pl (w1 (bw p.2))] := rfl
      have hput : putO (.lst ((b.knw (kn.take i)).map Sy.d)) (.int (p.1 : Nat)) (yn p.2).d = some (.lst (((b.knw (kn.take i)).set p.1 (yn p.2)).map Sy.d)) := by
        have hix : ixN ((b.knw (kn.take i)).map Sy.d).length ((p.1 : Nat) : Int) = some p.1 := by
          unfold ixN
          rw [if_pos (by omega), if_pos (by rw [List.length_map]; omega)]
          rfl
        show Option.map _ (ixN _ _) = _
        rw [hix]
        show some (D.lst (List.set _ _ _)) = _
        rw [List.map_set]
      rw [hw]
      unfold forF p_with_known_b0
      simp only [hset, sPut, un, var, List.getElem?_cons_succ, List.getElem?_cons_zero, ok_bind, kix_eq, ofE, hput, List.set])
  rw [Nat.zero_add, List.take_length] at e1
  have hdl : dList (bk b) = .ok (.lst (b.map Sy.d)) := rfl
  have hdt : dTuple (.lst ((b.knw kn).map Sy.d)) = .ok (bk (b.knw kn)) := rfl
  have hsrc : src (var 1) [.own (.lst (b.map Sy.d)), .pl (knD' kn), .dead, .dead] = .ok (kn.map knP) := rfl
  unfold p_with_known
  unfold runB
  show (match (sSeq _ _) [.pl (bk b), .pl (knD' kn), .dead, .dead] with | .nx _ => Res.ok D.non | .rt d => .ok d | .rs c _ => .rs c | _ => .bad) = _
  simp only [sSeq, sOwn, un, varB, List.getElem?_cons_succ, List.getElem?_cons_zero, ok_bind, hdl, ofE, List.set, sFor, hsrc, e1, sRet, hdt]
theorem grounded_of_eq (b : Bk) (hb : b.ok) (kn : KnB) (hk : ∀ p ∈ kn, p.1 < b.length) : p_grounded_of [bk b, knD' kn] = .ok (tx (b.knw kn).lst) := by
  have h1 := with_known_eq b hb kn hk
  have ob := knw_ok b hb kn
  have h2 := rounds_from_eq (b.knw kn) ob (b.knw kn).low (low_len _) (low_bel _ _)
  have h3 := len_bk (b.knw kn) ob.six
  have h4 := mul_low (b.knw kn) ob.six
  have h5 : dIx (.lst ((rnds (b.knw kn) (b.knw kn).length (b.knw kn).low).map tx)) (.int (-1)) = .ok (tx (b.knw kn).lst) := by
    show ofO (atI _ (-1)) = _
    rw [atI_map_last tx _ (rnds_ne _ _ _)]
    rfl
  have h6 : dNeg (.int 1) = .ok (.int (-1)) := rfl
  generalize (rnds (b.knw kn) (b.knw kn).length (b.knw kn).low).map tx = R at h2 h5
  unfold p_grounded_of
  unfold runB
  show (match (sSeq _ _) [.pl (bk b), .pl (knD' kn), .dead] with | .nx _ => Res.ok D.non | .rt d => .ok d | .rs c _ => .rs c | _ => .bad) = _
  simp only [sSeq, sSet, callE, acons, anil, un, bin, con, var, List.getElem?_cons_succ, List.getElem?_cons_zero, ok_bind, h1, ofE, List.set, sRet, h3, h4, h2, h6, h5]
/-! known rows looked at -/
theorem kni_eq (v : Bool) : dKNotIn t_SAYINGS (w1 (bw v)) = .ok (.bl false) := by
  cases v <;> simp [t_SAYINGS, bw, w1, Wo.c, dKNotIn, lookT]
theorem look_known_loop (b : Bk) (h6 : b.length ≤ 6) (d : D) : ∀ (kn : KnB) (prev : Int) (s3 : Slot), -1 ≤ prev → (∀ p ∈ kn, prev < (p.1 : Int) ∧ p.1 < b.length) → (kn.Pairwise fun p q => p.1 < q.1) →
    ∃ z s, forL (forF (gSet 3) p_look_known_b0) (kn.map knP) [.pl (bk b), .pl d, .pl (.int prev), s3] = .nx [.pl (bk b), .pl d, .pl (.int z), s]
  | [], prev, s3, _, _, _ => ⟨prev, s3, rfl⟩
  | p :: kn, prev, s3, h0, h1, h2 => by
    obtain ⟨a1, a2⟩ := h1 p List.mem_cons_self
    obtain ⟨b1, b2⟩ := List.pairwise_cons.mp h2
    obtain ⟨z, s, ih⟩ := look_known_loop b h6 d kn (p.1 : Nat) (.pl (knP p)) (by omega) (fun q hq => ⟨by have := b1 q hq; omega, (h1 q (List.mem_cons_of_mem _ hq)).2⟩) b2
    refine ⟨z, s, ?_⟩
    have hlb := len_bk b h6
    have hw := within_eq (p.1 : Nat) (prev + 1) ((b.length : Int) - 1)
    rw [decide_eq_true (by omega : prev + 1 ≤ ((p.1 : Nat) : Int)), decide_eq_true (by omega : ((p.1 : Nat) : Int) ≤ (b.length : Int) - 1)] at hw
    have e1 : dIsi .tuple (knP p) = .ok (.bl true) := rfl
    have e2 : dNe (.int 2) (.int 2) = .ok (.bl false) := by simp
    have e3 : dLen (knP p) = .ok (.int 2) := rfl
    have e4 : dIx (knP p) (.int 0) = .ok (.int (p.1 : Nat)) := rfl
    have e5 : dIx (knP p) (.int 1) = .ok (w1 (bw p.2)) := rfl
    have e6 : dIsi .str (w1 (bw p.2)) = .ok (.bl true) := rfl
    have e7 := kni_eq p.2
    have e8 : dAdd (.int prev) (.int 1) = .ok (.int (prev + 1)) := rfl
    have e9 : dSub (.int (b.length : Nat)) (.int 1) = .ok (.int ((b.length : Int) - 1)) := by simp
    have ht2 : ∀ v, dTruth (.bl v) = .ok v := fun v => rfl
    have step : forF (gSet 3) p_look_known_b0 (knP p) [.pl (bk b), .pl d, .pl (.int prev), s3] = .nx [.pl (bk b), .pl d, .pl (.int (p.1 : Nat)), .pl (knP p)] := by
      unfold forF p_look_known_b0
      simp only [gSet, List.set, sSeq, sIf, orT, notT, tst, tstB, callE, acons, anil, un, bin, con, var, List.getElem?_cons_succ, List.getElem?_cons_zero, ok_bind, e1, ht2, Bool.not_true, Bool.false_eq_true, if_false, e3, e2, e4, e8, hlb, e9, hw, Bool.and_self, sNx, e5, e6, e7, sSet, ofE]
    rw [List.map_cons]
    unfold forL
    rw [step]
    exact ih
theorem look_known_eq (b : Bk) (hb : b.ok) (kn : KnB) (hk : KnOk b.length kn) : p_look_known [bk b, knD' kn] = .ok .non := by
  obtain ⟨z, s, hl⟩ := look_known_loop b hb.six (knD' kn) kn (-1) .dead (by omega) (fun p hp => ⟨by omega, hk.lt p hp⟩) hk.rise
  have e1 : dIsi .tuple (knD' kn) = .ok (.bl true) := rfl
  have ht2 : ∀ v, dTruth (.bl v) = .ok v := fun v => rfl
  have e2 : dNeg (.int 1) = .ok (.int (-1)) := rfl
  have hsrc : src (var 1) [.pl (bk b), .pl (knD' kn), .pl (.int (-1)), .dead] = .ok (kn.map knP) := rfl
  unfold p_look_known
  unfold runB
  show (match (sSeq _ _) [.pl (bk b), .pl (knD' kn), .dead, .dead] with | .nx _ => Res.ok D.non | .rt d => .ok d | .rs c _ => .rs c | _ => .bad) = _
  simp only [sSeq, sIf, notT, tst, un, con, var, List.getElem?_cons_succ, List.getElem?_cons_zero, ok_bind, e1, ht2, Bool.not_true, sNx, sSet, e2, ofE, List.set, sFor, hsrc, hl]
theorem grounded_by_eq (b : Bk) (hb : b.ok) (kn : KnB) (hk : KnOk b.length kn) : p_grounded_by [bk b, knD' kn] = .ok (tx (b.knw kn).lst) := by
  have h1 := look_eq b hb
  have h2 := look_known_eq b hb kn hk
  have h3 := grounded_of_eq b hb kn hk.lt
  generalize knD' kn = K at h2 h3 ⊢
  simp [p_grounded_by, h1, h2, h3]
end SR

set_option linter.all false
set_option autoImplicit false
set_option Elab.async false
set_option maxRecDepth 100000
/-! Th34: all known rows, the fewest that ground all. -/
namespace SR
def alk : Nat → List KnB
  | 0 => [[]]
  | k + 1 => (alk k ++ (alk k).map (· ++ [(k, false)])) ++ (alk k).map (· ++ [(k, true)])
theorem alk_len : ∀ k, (alk k).length = 3 ^ k
  | 0 => rfl
  | k + 1 => by
    unfold alk
    rw [List.length_append, List.length_append, List.length_map, List.length_map, alk_len k, Nat.pow_succ]
    omega
theorem alk_ok : ∀ k, ∀ kn ∈ alk k, KnOk k kn ∧ kn.length ≤ k
  | 0, kn, h => by
    have : kn = [] := List.mem_singleton.mp h
    subst this
    exact ⟨⟨.nil, fun p hp => by cases hp⟩, Nat.le_refl _⟩
  | k + 1, kn, h => by
    have ext : ∀ v, ∀ kn' ∈ alk k, KnOk (k + 1) (kn' ++ [(k, v)]) ∧ (kn' ++ [(k, v)]).length ≤ k + 1 := fun v kn' h' => by
      obtain ⟨a1, a2⟩ := alk_ok k kn' h'
      refine ⟨⟨?_, fun p hp => ?_⟩, by rw [List.length_append]; simp; exact a2⟩
      · rw [List.pairwise_append]
        exact ⟨a1.rise, by simp, fun p hp q hq => by rw [List.mem_singleton.mp hq]; exact a1.lt p hp⟩
      · rcases List.mem_append.mp hp with hp | hp
        · have := a1.lt p hp; omega
        · rw [List.mem_singleton.mp hp]; exact Nat.lt_succ_self _
    unfold alk at h
    rcases List.mem_append.mp h with h | h
    · rcases List.mem_append.mp h with h | h
      · obtain ⟨a1, a2⟩ := alk_ok k kn h
        exact ⟨⟨a1.rise, fun p hp => by have := a1.lt p hp; omega⟩, by omega⟩
      · obtain ⟨kn', h', rfl⟩ := List.mem_map.mp h
        exact ext false kn' h'
    · obtain ⟨kn', h', rfl⟩ := List.mem_map.mp h
      exact ext true kn' h'
/-- all worths known, true -/
def fullK (k : Nat) : KnB := (List.range k).map fun i => (i, true)
theorem full_mem : ∀ k, fullK k ∈ alk k
  | 0 => List.mem_singleton.mpr rfl
  | k + 1 => by
    unfold alk
    refine List.mem_append_right _ (List.mem_map.mpr ⟨fullK k, full_mem k, ?_⟩)
    unfold fullK
    rw [List.range_succ, List.map_append]
    rfl
theorem kn_add (kn : KnB) (k : Nat) (v : Bool) (h : kn.length ≤ 10) : dAdd (knD' kn) (.tup [.tup [.int (k : Nat), w1 (bw v)]]) = .ok (knD' (kn ++ [(k, v)])) := by
  have : (kn.map knP).length + [D.tup [.int (k : Nat), w1 (bw v)]].length ≤ 16777216 := by rw [List.length_map]; simp; omega
  unfold knD'
  rw [List.map_append]
  exact if_pos this
theorem ls_add (xs ys : List D) (h : xs.length + ys.length ≤ 16777216) : dAdd (.lst xs) (.lst ys) = .ok (.lst (xs ++ ys)) := if_pos h
theorem all_comp (k : Nat) (hk : k ≤ 6) (v : Bool) {ρ : Env} {j : Nat} (h1 : ρ[1]? = some (.pl (.lst ((alk k).map knD')))) (h2 : ρ[2]? = some (.pl (.int (k : Nat)))) (hj : j = 3 ∨ j = 4) (hl : j < ρ.length) :
    comp (src (var 1)) [j] (gSet j) yes (bin dAdd (var j) (tupE (acons (tupE (acons (var 2) (acons (con (w1 (bw v))) anil))) anil))) ρ = .ok (.lst (((alk k).map (· ++ [(k, v)])).map knD')) := by
  have hal := alk_len k
  have hp : 3 ^ k ≤ 3 ^ 6 := Nat.pow_le_pow_right (by decide) hk
  rw [comp_map knD' (alk k) (fun kn => knD' (kn ++ [(k, v)])) (by simp only [var, h1]) (by omega) (fun kn hkn => by
    have ha := kn_add kn k v (by have := (alk_ok k kn hkn).2; omega)
    have v2 : ((ρ.set j .dead).set j (.pl (knD' kn)))[2]? = some (.pl (.int (k : Nat))) := by
      rw [List.getElem?_set_ne (by omega), List.getElem?_set_ne (by omega)]; exact h2
    have vj : ((ρ.set j .dead).set j (.pl (knD' kn)))[j]? = some (.pl (knD' kn)) := by
      rw [List.getElem?_set_self (by rw [List.length_set]; exact hl)]
    simp only [bin, tupE, acons, anil, con, var, v2, vj, ok_bind, List.length_cons, List.length_nil, line_val]
    simp only [Nat.zero_add, Nat.reduceAdd, Nat.reduceLeDiff, if_true, ok_bind, List.length_cons, List.length_nil, ha])]
  rw [List.map_map]
  rfl
theorem seq_nx {a b : SX} {ρ ρ1 : Env} {o : Out} (h1 : a ρ = .nx ρ1) (h2 : b ρ1 = o) : sSeq a b ρ = o := by
  unfold sSeq
  rw [h1]
  exact h2
theorem all_known_eq (m : Nat) (hm : m ≤ 6) : p_all_known [.int (m : Nat)] = .ok (.lst ((alk m).map knD')) := by
  have hsm := small62_nat' m (by omega)
  obtain ⟨ρ', e1, s2, s3, s4, rfl⟩ := forL_all (f := forF (gSet 2) p_all_known_b0) (fun i : Nat => D.int i) (fun k ρ => ∃ s2 s3 s4, ρ = [.pl (.int (m : Nat)), .pl (.lst ((alk k).map knD')), s2, s3, s4])
    (List.range m) 0 [.pl (.int (m : Nat)), .pl (.lst [.tup []]), .dead, .dead, .dead] ⟨_, _, _, rfl⟩ (fun k i ρ hi hI => by
      obtain ⟨s2, s3, s4, rfl⟩ := hI
      rw [Nat.zero_add]
      obtain ⟨hk, ei⟩ := List.getElem?_eq_some_iff.mp hi
      rw [List.length_range] at hk
      rw [List.getElem_range] at ei
      subst ei
      have hal := alk_len k
      have hp : 3 ^ k ≤ 3 ^ 6 := Nat.pow_le_pow_right (by decide) (by omega)
      refine ⟨_, .inl ?_, .pl (.int (k : Nat)), .pl (.lst (((alk k).map (· ++ [(k, false)])).map knD')), s4, rfl⟩
      have c1 := all_comp k (by omega) false (ρ := [.pl (.int (m : Nat)), .pl (.lst ((alk k).map knD')), .pl (.int (k : Nat)), s3, s4]) (j := 4) rfl rfl (.inr rfl) (by simp)
      have c2 := all_comp k (by omega) true (ρ := [.pl (.int (m : Nat)), .pl (.lst ((alk k).map knD')), .pl (.int (k : Nat)), .pl (.lst (((alk k).map (· ++ [(k, false)])).map knD')), s4]) (j := 4) rfl rfl (.inr rfl) (by simp)
      have a1 := ls_add ((alk k).map knD') (((alk k).map (· ++ [(k, false)])).map knD') (by simp only [List.length_map]; omega)
      have a2 := ls_add ((alk k).map knD' ++ ((alk k).map (· ++ [(k, false)])).map knD') (((alk k).map (· ++ [(k, true)])).map knD') (by simp only [List.length_append, List.length_map]; omega)
      have e2 : ((alk (k + 1)).map knD') = ((alk k).map knD' ++ ((alk k).map (· ++ [(k, false)])).map knD') ++ ((alk k).map (· ++ [(k, true)])).map knD' := by
        show List.map knD' ((alk k ++ (alk k).map (· ++ [(k, false)])) ++ (alk k).map (· ++ [(k, true)])) = _
        rw [List.map_append, List.map_append]
      rw [e2]
      have st1 : ∀ X : EX, X [.pl (.int (m : Nat)), .pl (.lst ((alk k).map knD')), .pl (.int (k : Nat)), s3, s4] = .ok (.lst (((alk k).map (· ++ [(k, false)])).map knD')) → sSet 3 X [.pl (.int (m : Nat)), .pl (.lst ((alk k).map knD')), .pl (.int (k : Nat)), s3, s4] = .nx [.pl (.int (m : Nat)), .pl (.lst ((alk k).map knD')), .pl (.int (k : Nat)), .pl (.lst (((alk k).map (· ++ [(k, false)])).map knD')), s4] := fun X hX => by
        simp only [sSet, hX, ofE, List.set]
      have st2 : ∀ X : EX, X [.pl (.int (m : Nat)), .pl (.lst ((alk k).map knD')), .pl (.int (k : Nat)), .pl (.lst (((alk k).map (· ++ [(k, false)])).map knD')), s4] = .ok (.lst (((alk k).map (· ++ [(k, true)])).map knD')) →
          sSet 1 (bin dAdd (bin dAdd (var 1) (var 3)) X) [.pl (.int (m : Nat)), .pl (.lst ((alk k).map knD')), .pl (.int (k : Nat)), .pl (.lst (((alk k).map (· ++ [(k, false)])).map knD')), s4] = .nx [.pl (.int (m : Nat)), .pl (.lst (((alk k).map knD' ++ ((alk k).map (· ++ [(k, false)])).map knD') ++ ((alk k).map (· ++ [(k, true)])).map knD')), .pl (.int (k : Nat)), .pl (.lst (((alk k).map (· ++ [(k, false)])).map knD')), s4] := fun X hX => by
        simp only [sSet, bin, var, List.getElem?_cons_succ, List.getElem?_cons_zero, ok_bind, hX, a1, a2, ofE, List.set]
      show (sSeq _ _) [.pl (.int (m : Nat)), .pl (.lst ((alk k).map knD')), .pl (.int (k : Nat)), s3, s4] = _
      have c1' := st1 _ c1
      have c2' := st2 _ c2
      exact seq_nx c1' c2')
  rw [Nat.zero_add, List.length_range] at e1
  have hsrc : ∀ s1 s2 s3 s4, srcR1 (var 0) [.pl (.int (m : Nat)), s1, s2, s3, s4] = .ok ((List.range m).map fun i : Nat => D.int i) := fun s1 s2 s3 s4 => by
    simp [hsm, rng_0']
  unfold p_all_known runB
  show (match (sSeq _ _) [.pl (.int (m : Nat)), .dead, .dead, .dead, .dead] with | .nx _ => Res.ok D.non | .rt d => .ok d | .rs c _ => .rs c | _ => .bad) = _
  simp only [sSeq, sSet, lstE, tupE, acons, anil, ok_bind, List.length_nil, List.length_cons, line_val]
  simp only [Nat.zero_le, Nat.zero_add, Nat.reduceLeDiff, if_true, ok_bind, List.length_cons, List.length_nil, ofE, List.set, sFor, hsrc, e1, sRet, var, List.getElem?_cons_succ, List.getElem?_cons_zero]
/-! the least row -/
def rowD (kn : KnB) : D := .tup [.int (kn.length : Nat), knD' kn]
theorem knD_lay (kn : KnB) : (knD' kn).lay = true ∧ (knD' kn).dep ≤ 2 := by
  have h : ∀ kn : KnB, D.lays (kn.map knP) = true ∧ D.deps (kn.map knP) ≤ 1 := by
    intro kn
    induction kn with
    | nil => simp [D.lays, D.deps]
    | cons p kn ih =>
      rw [List.map_cons, D.lays, D.deps]
      have h1 : (knP p).lay = true := by
        obtain ⟨i, v⟩ := p
        cases v <;> simp [knP, D.lay, D.lays, w1, bw, Wo.c, okC]
      have h2 : (knP p).dep = 1 := by simp [knP, D.dep, D.deps, w1]
      rw [h1, h2, ih.1]
      exact ⟨rfl, Nat.max_le.mpr ⟨Nat.le_refl _, ih.2⟩⟩
  unfold knD'
  rw [D.lay, D.dep]
  exact ⟨(h kn).1, Nat.succ_le_succ (h kn).2⟩
theorem knD_good (kn : KnB) : (knD' kn).good = true := by
  obtain ⟨h1, h2⟩ := knD_lay kn
  unfold D.good
  rw [h1, Bool.true_and, decide_eq_true_eq]
  omega
theorem alks_kn : ∀ a c : KnB, D.alks (a.map knP) (c.map knP) = true
  | [], _ => by simp [D.alks]
  | _ :: _, [] => by simp [D.alks]
  | p :: a, q :: c => by
    rw [List.map_cons, List.map_cons, D.alks, alks_kn a c]
    simp [knP, D.alk, D.alks, w1]
theorem sortOk_row (l : List KnB) (h : l.length ≤ 100000) : sortOk (l.map rowD) = true := by
  unfold sortOk
  have a1 : ((l.map rowD).all fun x => x.lay && decide (x.dep ≤ 8)) = true := by
    rw [List.all_eq_true]
    intro x hx
    obtain ⟨kn, _, rfl⟩ := List.mem_map.mp hx
    obtain ⟨h1, h2⟩ := knD_lay kn
    have h3 : (rowD kn).lay = true := by simp only [rowD, D.lay, D.lays, h1]; rfl
    have h4 : (rowD kn).dep ≤ 8 := by
      have : (rowD kn).dep = max 0 (max (knD' kn).dep 0) + 1 := by simp only [rowD, D.dep, D.deps]
      rw [this]
      omega
    rw [h3, Bool.true_and]
    exact decide_eq_true h4
  have a2 : ((l.map rowD).all fun a => (l.map rowD).all fun c => D.alk a c) = true := by
    rw [List.all_eq_true]
    intro x hx
    obtain ⟨kn, _, rfl⟩ := List.mem_map.mp hx
    rw [List.all_eq_true]
    intro y hy
    obtain ⟨kn2, _, rfl⟩ := List.mem_map.mp hy
    have := alks_kn kn kn2
    simp only [rowD, knD', D.alk, D.alks, this]; rfl
  have a3 : (l.map rowD).all D.neT = true := by
    rw [List.all_eq_true]
    intro x hx
    obtain ⟨kn, _, rfl⟩ := List.mem_map.mp hx
    rfl
  rw [a1, a2, a3]
  simp [h]
theorem minL_mem : ∀ (xs : List D) (x : D), minL x xs ∈ x :: xs
  | [], x => List.mem_cons_self
  | y :: xs, x => by
    rw [minL]
    have := minL_mem xs (if D.ltv y x then y else x)
    rcases List.mem_cons.mp this with e | e
    · rw [e]; split <;> simp
    · exact List.mem_cons_of_mem _ (List.mem_cons_of_mem _ e)
theorem min_row (l : List KnB) (h : l ≠ []) (hl : l.length ≤ 100000) : ∃ kn ∈ l, dMinL (.lst (l.map rowD)) = .ok (rowD kn) := by
  obtain ⟨kn, l', rfl⟩ : ∃ kn l', l = kn :: l' := by
    cases l with
    | nil => exact absurd rfl h
    | cons a l => exact ⟨a, l, rfl⟩
  have ok := sortOk_row (kn :: l') hl
  rw [List.map_cons] at ok ⊢
  have hm := minL_mem (l'.map rowD) (rowD kn)
  obtain ⟨k2, h2, e2⟩ := List.mem_map.mp (show minL (rowD kn) (l'.map rowD) ∈ (kn :: l').map rowD from by rw [List.map_cons]; exact hm)
  refine ⟨k2, h2, ?_⟩
  unfold dMinL
  simp only [ok, if_true]
  rw [← e2]
/-! the fewest -/
def allK (b : Bk) (kn : KnB) : Bool := !decide (Wo.n ∈ (b.knw kn).lst)
theorem in_tx (τ : Tel) : dNotIn (.str [110]) (tx τ) = .ok (.bl (!decide (Wo.n ∈ τ))) := by
  have h : (τ.map Wo.c).contains 110 = decide (Wo.n ∈ τ) := by
    rw [Bool.eq_iff_iff, List.contains_iff_mem, decide_eq_true_eq, List.mem_map]
    constructor
    · rintro ⟨w, hw, e⟩
      cases w <;> simp [Wo.c] at e
      exact hw
    · intro hw; exact ⟨_, hw, rfl⟩
  unfold dNotIn
  show (Res.ok (D.bl ((τ.map Wo.c).contains 110))).bind notB = _
  rw [h]
  rfl
theorem few_ne (b : Bk) (hb : b.ok) : (alk b.length).filter (allK b) ≠ [] := by
  intro e
  rw [List.filter_eq_nil_iff] at e
  refine e _ (full_mem b.length) ?_
  unfold allK
  rw [Bool.not_eq_true', decide_eq_false_iff_not]
  have hat : ∀ (k : Nat), k ≤ b.length → ∀ i, i < k → (b.knw (fullK k))[i]? = some .yes := by
    intro k
    induction k with
    | zero => intro _ i hi; omega
    | succ k ih =>
      intro hk i hi
      have e2 : b.knw (fullK (k + 1)) = (b.knw (fullK k)).set k .yes := by
        unfold Bk.knw fullK
        rw [List.range_succ, List.map_append, List.foldl_append]
        rfl
      have hl := knw_len b (fullK k)
      rw [e2]
      by_cases q : i = k
      · subst q
        rw [List.getElem?_set_self (by omega)]
      · rw [List.getElem?_set_ne (by omega)]
        exact ih (by omega) i (by omega)
  have hfix := lst_fix (b.knw (fullK b.length))
  rw [← hfix]
  unfold Bk.next
  rw [List.mem_map]
  rintro ⟨s, hs, hw⟩
  obtain ⟨i, hi⟩ := List.getElem?_of_mem hs
  have hil := (List.getElem?_eq_some_iff.mp hi).1
  rw [knw_len] at hil
  rw [hat b.length (Nat.le_refl _) i hil] at hi
  cases hi
  cases hw
theorem fewest_eq (b : Bk) (hb : b.ok) (kn : KnB) (hm : dMinL (.lst (((alk b.length).filter (allK b)).map rowD)) = .ok (rowD kn)) : p_fewest_known [bk b] = .ok (knD' kn) := by
  have h6 := hb.six
  have hl := look_eq b hb
  have hlb := len_bk b h6
  have hal := all_known_eq b.length h6
  have hp : 3 ^ b.length ≤ 3 ^ 6 := Nat.pow_le_pow_right (by decide) h6
  have hlen := alk_len b.length
  obtain ⟨ρ', e1, s2, rfl⟩ := forL_all (f := forF (gSet 2) p_fewest_known_b0) knD' (fun k ρ => ∃ s2, ρ = [.pl (bk b), .own (.lst ((((alk b.length).take k).filter (allK b)).map rowD)), s2])
    (alk b.length) 0 [.pl (bk b), .own (.lst []), .dead] ⟨_, rfl⟩ (fun i kn ρ hkn hI => by
      obtain ⟨s2, rfl⟩ := hI
      rw [Nat.zero_add]
      have hmem := List.mem_of_getElem? hkn
      obtain ⟨k1, k2⟩ := alk_ok b.length kn hmem
      have hg := grounded_of_eq b hb kn k1.lt
      have hin := in_tx (b.knw kn).lst
      have hli : dLen (knD' kn) = .ok (.int (kn.length : Nat)) := by
        have : kn.length ≤ 16777216 := by omega
        unfold knD'
        simp [this]
      have ht : (alk b.length).take (i + 1) = (alk b.length).take i ++ [kn] := by rw [List.take_add_one, hkn]; rfl
      refine ⟨_, .inl ?_, .pl (knD' kn), rfl⟩
      rw [ht, List.filter_append, List.map_append]
      have hsz : ((((alk b.length).take i).filter (allK b)).map rowD).length < 16777216 := by
        rw [List.length_map]
        have h1 := List.length_filter_le (allK b) ((alk b.length).take i)
        rw [List.length_take] at h1
        omega
      unfold forF p_fewest_known_b0
      unfold allK at *
      by_cases q : Wo.n ∈ (b.knw kn).lst
      · rw [decide_eq_true q] at hin
        rw [List.filter_cons, if_neg (by simp [q])]
        simp only [gSet, List.set, sIf, tstB, bin, callE, con, acons, anil, var, List.getElem?_cons_succ, List.getElem?_cons_zero, ok_bind, hg, hin, Bool.not_true, sNx, List.filter_nil, List.map_nil, List.append_nil]
      · rw [decide_eq_false q] at hin
        rw [List.filter_cons, if_pos (by simp [q])]
        simp only [gSet, List.set, sIf, tstB, bin, callE, con, acons, anil, var, List.getElem?_cons_succ, List.getElem?_cons_zero, ok_bind, hg, hin, Bool.not_false, sApp, tupE, un, hli, List.length_cons, List.length_nil, line_val]
        simp only [Nat.zero_add, Nat.reduceAdd, Nat.reduceLeDiff, if_true, ok_bind, hsz, List.length_cons, List.length_nil, ofE, List.set, List.filter_nil, List.map_cons, List.map_nil]
        rfl)
  rw [Nat.zero_add, List.take_length] at e1
  have hsrc : src (callE p_all_known (acons (un dLen (var 0)) anil)) [.pl (bk b), .own (.lst []), .dead] = .ok ((alk b.length).map knD') := by
    simp only [src, callE, acons, anil, un, var, List.getElem?_cons_zero, ok_bind, hlb, hal, itemsK]
  have hix : dIx (rowD kn) (.int 1) = .ok (knD' kn) := rfl
  unfold p_fewest_known runB
  show (match (sSeq _ _) [.pl (bk b), .dead, .dead] with | .nx _ => Res.ok D.non | .rt d => .ok d | .rs c _ => .rs c | _ => .bad) = _
  simp only [sSeq, sExp, callE, acons, anil, var, List.getElem?_cons_zero, ok_bind, hl, ofE, sOwn, lstE, List.length_nil, Nat.zero_le, if_true, List.set]
  simp only [sFor, hsrc, e1, sRet, bin, un, con, varB, List.getElem?_cons_succ, List.getElem?_cons_zero, ok_bind, hm, hix]
  rfl
end SR

set_option linter.all false
set_option autoImplicit false
set_option Elab.async false
set_option maxRecDepth 100000
/-! L_k23: the law. -/
namespace SR
/-! the law's grounded -/
theorem pairs_kn : ∀ kn : KnB, pairsOf (kn.map knP) = some (kn.map fun p => (D.int (p.1 : Nat), w1 (bw p.2)))
  | [] => rfl
  | p :: kn => by
    rw [List.map_cons]
    show (pairsOf (kn.map knP)).map _ = _
    rw [pairs_kn kn]; rfl
def knT (kn : KnB) : List (D × D) := kn.map fun p => (D.int (p.1 : Nat), w1 (bw p.2))
theorem put_kn : ∀ (l acc : KnB), (acc ++ l).Pairwise (fun p q => p.1 < q.1) → (knT l).foldl (fun a p => putD a p.1 p.2) (knT acc) = knT (acc ++ l)
  | [], acc, _ => by simp [knT]
  | p :: l, acc, h => by
    have hn : ((knT acc).any fun q => D.eq q.1 (.int (p.1 : Nat))) = false := by
      rw [Bool.eq_false_iff]
      intro k
      obtain ⟨q, hq, e⟩ := List.any_eq_true.mp k
      obtain ⟨q', hq', rfl⟩ := List.mem_map.mp hq
      have e' : D.eq (.int (q'.1 : Nat)) (.int (p.1 : Nat)) = true := e
      have := (List.pairwise_append.mp h).2.2 q' hq' p List.mem_cons_self
      simp [D.eq] at e'
      omega
    have hp : putD (knT acc) (.int (p.1 : Nat)) (w1 (bw p.2)) = knT (acc ++ [p]) := by
      unfold putD
      rw [hn]
      simp only [Bool.false_eq_true, if_false]
      unfold knT
      rw [List.map_append]
      rfl
    show (knT l).foldl _ (putD (knT acc) (.int (p.1 : Nat)) (w1 (bw p.2))) = _
    rw [hp, put_kn l (acc ++ [p]) (by simpa using h)]
    simp
theorem dpairs_kn (m : Nat) (hm : m ≤ 6) (kn : KnB) (hk : KnOk m kn) (hl : kn.length ≤ 1000) : dPairsT (knD' kn) = .ok (.dct false (knT kn)) := by
  have h1 : ((knT kn).all fun p => fitK false p.1) = true := by
    rw [List.all_eq_true]
    intro x hx
    obtain ⟨p, _, rfl⟩ := List.mem_map.mp hx
    rfl
  have h3 := put_kn kn [] (by simpa using hk.rise)
  unfold dPairsT knD'
  simp only [pairs_kn]
  show (if ((knT kn).all fun p => fitK false p.1) && decide ((knT kn).length ≤ 1000) then _ else _) = _
  rw [h1, if_pos (by simp [knT]; exact hl)]
  unfold putAll
  rw [show knT [] = [] from rfl, List.nil_append] at h3
  show Res.ok (D.dct false (List.foldl _ [] (knT kn))) = _
  rw [h3]
def lkB (kn : KnB) (i : Nat) : Option Bool := (kn.find? fun p => decide (p.1 = i)).map (·.2)
theorem look_kn (kn : KnB) (i : Nat) : lookD (knT kn) (.int (i : Nat)) = (lkB kn i).map fun v => w1 (bw v) := by
  unfold lookD knT lkB
  induction kn with
  | nil => rfl
  | cons p kn ih =>
    rw [List.map_cons, List.find?_cons, List.find?_cons]
    have e : D.eq (.int (p.1 : Nat)) (.int (i : Nat)) = decide (p.1 = i) := by
      simp only [D.eq]
      rw [Bool.eq_iff_iff]
      simp
      omega
    simp only [e]
    cases decide (p.1 = i)
    · exact ih
    · rfl
theorem knw_get (b : Bk) : ∀ (kn : KnB), (kn.Pairwise fun p q => p.1 < q.1) → ∀ i, i < b.length → (b.knw kn)[i]? = some (match lkB kn i with | some v => yn v | none => b.at i)
  | [], _, i, hi => by
    show b[i]? = _
    rw [List.getElem?_eq_getElem hi]
    show some b[i] = some (b.at i)
    unfold Bk.at
    rw [List.getD_eq_getElem?_getD, List.getElem?_eq_getElem hi]; rfl
  | p :: kn, h, i, hi => by
    obtain ⟨h1, h2⟩ := List.pairwise_cons.mp h
    have ih := knw_get (b.set p.1 (yn p.2)) kn h2 i (by rw [List.length_set]; exact hi)
    show (Bk.knw (b.set p.1 (yn p.2)) kn)[i]? = _
    rw [ih]
    unfold lkB
    rw [List.find?_cons]
    by_cases q : p.1 = i
    · have hno : kn.find? (fun p => decide (p.1 = i)) = none := by
        rw [List.find?_eq_none]
        intro r hr
        have := h1 r hr
        rw [decide_eq_true_eq]; omega
      rw [hno, decide_eq_true q]
      show some (Bk.at (b.set p.1 (yn p.2)) i) = some (yn p.2)
      unfold Bk.at
      rw [← q, List.getD_eq_getElem?_getD, List.getElem?_set_self (by omega)]
      rfl
    · rw [decide_eq_false q]
      have : Bk.at (b.set p.1 (yn p.2)) i = b.at i := by
        unfold Bk.at
        rw [List.getD_eq_getElem?_getD, List.getD_eq_getElem?_getD, List.getElem?_set_ne q]
      rw [this]
theorem lk_lt {kn : KnB} {i : Nat} : lkB kn i = none ∨ ∃ v, lkB kn i = some v := by
  cases lkB kn i with
  | none => exact .inl rfl
  | some v => exact .inr ⟨v, rfl⟩
theorem here_comp (b : Bk) (hb : b.ok) (kn : KnB) (hk : KnOk b.length kn) (s3 s4 s5 s6 : Slot) :
    comp (srcEnum (var 0)) [5, 6] (gTup [5, 6]) yes (ifE (tstB (bin dIn (var 5) (var 2))) (tupE (acons (bin dIx (lstE (acons (con (.str [110, 111])) (acons (con (.str [121, 101, 115])) anil))) (meth isS dSIndex (con (.str [102, 116])) (bin dIx (var 2) (var 5)))) anil)) (var 6))
      [.pl (bk b), .pl (knD' kn), .pl (.dct false (knT kn)), s3, s4, s5, s6] = .ok (.lst ((b.knw kn).map Sy.d)) := by
  have h6 := hb.six
  have hl := knw_len b kn
  have hsrc : srcEnum (var 0) [.pl (bk b), .pl (knD' kn), .pl (.dct false (knT kn)), s3, s4, s5, s6] = .ok ((List.range b.length).map fun i : Nat => .tup [.int (i : Nat), (b.at i).d]) := by
    show Res.ok (enumD (b.map Sy.d)) = _
    congr 1
    refine List.ext_getElem? fun i => ?_
    unfold enumD
    rw [List.getElem?_map, List.getElem?_zipIdx, List.getElem?_map, List.getElem?_map]
    by_cases q : i < b.length
    · rw [List.getElem?_range q, List.getElem?_eq_getElem q]
      show some (D.tup [.int ((0 + i : Nat) : Int), b[i].d]) = some (D.tup [.int (i : Nat), (b.at i).d])
      have : b.at i = b[i] := by unfold Bk.at; rw [List.getD_eq_getElem?_getD, List.getElem?_eq_getElem q]; rfl
      rw [this, Nat.zero_add]
    · rw [List.getElem?_eq_none (by omega : b.length ≤ i), List.getElem?_eq_none (by rw [List.length_range]; omega)]
      rfl
  rw [comp_src2 (fun i : Nat => D.int (i : Nat)) (fun i => (b.at i).d) (List.range b.length) (fun _ => true) (fun i => (match lkB kn i with | some v => yn v | none => b.at i).d) hsrc (by simp; omega) (fun _ _ => rfl) (fun i hi _ => by
    have hi' := List.mem_range.mp hi
    have hlk := look_kn kn i
    have hin : dIn (.int (i : Nat)) (.dct false (knT kn)) = .ok (.bl (lkB kn i).isSome) := by
      show Res.ok (D.bl (lookD (knT kn) (.int (i : Nat))).isSome) = _
      rw [hlk, Option.isSome_map]
    have hix : dIx (.dct false (knT kn)) (.int (i : Nat)) = ofO (lookD (knT kn) (.int (i : Nat))) := rfl
    rw [hlk] at hix
    generalize knT kn = K at hin hix
    rcases lk_lt (kn := kn) (i := i) with e | ⟨v, e⟩
    · rw [e] at hin ⊢
      simp only [ifE, tstB, bin, var, List.set, List.getElem?_cons_succ, List.getElem?_cons_zero, ok_bind, hin]
      rfl
    · rw [e] at hin hix ⊢
      have hix' : dIx (.dct false K) (.int (i : Nat)) = .ok (w1 (bw v)) := hix
      have hw : dSIndex (.str [102, 116]) (w1 (bw v)) = .ok (.int (if v then 1 else 0)) := by cases v <;> simp [bw, w1, Wo.c, signIx]
      simp only [ifE, tstB, bin, var, con, meth, isS, tupE, lstE, acons, anil, List.set, List.getElem?_cons_succ, List.getElem?_cons_zero, ok_bind, hin, hix', if_true, hw, List.length_cons, List.length_nil, line_val]
      cases v <;> rfl)]
  rw [List.filter_eq_self.mpr fun _ _ => rfl]
  congr 2
  refine List.ext_getElem? fun i => ?_
  rw [List.getElem?_map, List.getElem?_map]
  by_cases q : i < b.length
  · rw [List.getElem?_range q, knw_get b kn hk.rise i q]
    rfl
  · rw [List.getElem?_eq_none (by rw [List.length_range]; omega), List.getElem?_eq_none (by omega)]
    rfl
theorem gr_loop (b : Bk) (hb : b.ok) (s0 s1 s2 : Slot) (s5 s6 : Slot) : ∀ (k f : Nat) (τ : Tel), τ.length = b.length → bel τ (b.next τ) = true → τ.count .n ≤ k → k < f →
    whileL (tstB (bin dNe (callE l_next (acons (var 3) (acons (var 4) anil))) (var 4))) l_grounded_b0 f [s0, s1, s2, .pl (bk b), .pl (tx τ), s5, s6] = .nx [s0, s1, s2, .pl (bk b), .pl (tx (b.up k τ)), s5, s6]
  | k, 0, _, _, _, _, h => absurd h (by omega)
  | k, f + 1, τ, hl, hg, hc, hf => by
    have hnx := l_next_eq b hb τ hl
    have hne := tx_ne (b.next τ) τ
    unfold whileL
    simp only [tstB, bin, callE, acons, anil, var, List.getElem?_cons_succ, List.getElem?_cons_zero, ok_bind, hnx, hne]
    by_cases q : b.next τ = τ
    · have hu : b.up k τ = τ := by
        clear hc hf
        induction k with
        | zero => rfl
        | succ k ih => unfold Bk.up; rw [q]; exact ih
      rw [decide_eq_false (by simpa using q), hu]
    · cases k with
      | zero =>
        exfalso
        have := count_lt (ws := τ) (vs := b.next τ) (by rw [next_len]; exact hl) (fun p hp => List.all_eq_true.mp hg p hp) q
        omega
      | succ k =>
        have hlt := count_lt (ws := τ) (vs := b.next τ) (by rw [next_len]; exact hl) (fun p hp => List.all_eq_true.mp hg p hp) q
        have ih := gr_loop b hb s0 s1 s2 s5 s6 k f (b.next τ) (next_len b τ) (next_mono b hg (by rw [next_len]; exact hl)) (by omega) (by omega)
        rw [decide_eq_true (by simpa using q)]
        have hst : l_grounded_b0 [s0, s1, s2, .pl (bk b), .pl (tx τ), s5, s6] = .nx [s0, s1, s2, .pl (bk b), .pl (tx (b.next τ)), s5, s6] := by
          unfold l_grounded_b0
          simp only [sSet, callE, acons, anil, var, List.getElem?_cons_succ, List.getElem?_cons_zero, ok_bind, hnx, ofE, List.set]
        simp only [hst]
        exact ih
theorem l_grounded_eq (b : Bk) (hb : b.ok) (kn : KnB) (hk : KnOk b.length kn) (hl : kn.length ≤ 1000) : l_grounded [bk b, knD' kn] = .ok (tx (b.knw kn).lst) := by
  have h6 := hb.six
  have ob := knw_ok b hb kn
  have h1 := dpairs_kn b.length h6 kn hk hl
  have c1 := here_comp b hb kn hk .dead .dead .dead .dead
  have hdt : dTuple (.lst ((b.knw kn).map Sy.d)) = .ok (bk (b.knw kn)) := rfl
  have h3 := len_bk (b.knw kn) ob.six
  have h4 := mul_low (b.knw kn) ob.six
  have hc : (b.knw kn).low.count .n ≤ (b.knw kn).length := by
    have := List.count_le_length (a := Wo.n) (l := (b.knw kn).low)
    rw [low_len] at this
    exact this
  have hlo := gr_loop (b.knw kn) ob (.pl (bk b)) (.pl (knD' kn)) (.pl (.dct false (knT kn))) .dead .dead (b.knw kn).length 1000 (b.knw kn).low (low_len _) (low_bel _ _) hc (by have := ob.six; omega)
  have hlst : (b.knw kn).up (b.knw kn).length (b.knw kn).low = (b.knw kn).lst := (grow_up (b.knw kn) (b.knw kn).low).symm
  rw [hlst] at hlo
  unfold l_grounded
  generalize comp (srcEnum (var 0)) [5, 6] (gTup [5, 6]) yes (ifE (tstB (bin dIn (var 5) (var 2))) (tupE (acons (bin dIx (lstE (acons (con (.str [110, 111])) (acons (con (.str [121, 101, 115])) anil))) (meth isS dSIndex (con (.str [102, 116])) (bin dIx (var 2) (var 5)))) anil)) (var 6)) = C at c1 ⊢
  unfold runB
  show (match (sSeq _ _) [.pl (bk b), .pl (knD' kn), .dead, .dead, .dead, .dead, .dead] with | .nx _ => Res.ok D.non | .rt d => .ok d | .rs c _ => .rs c | _ => .bad) = _
  simp only [sSeq, sSet, un, var, List.getElem?_cons_succ, List.getElem?_cons_zero, ok_bind, h1, ofE, List.set, c1, hdt]
  simp only [bin, con, un, var, List.getElem?_cons_succ, List.getElem?_cons_zero, ok_bind, h3, h4, ofE, List.set, sWhile]
  rw [hlo]
  rfl
/-! the rows -/
theorem l_all_comp (k : Nat) (hk : k ≤ 6) (v : Bool) {ρ : Env} (h1 : ρ[1]? = some (.pl (.lst ((alk k).map knD')))) (h2 : ρ[2]? = some (.pl (.int (k : Nat)))) (hl : 3 < ρ.length) :
    comp (src (var 1)) [3] (gSet 3) yes (bin dAdd (var 3) (tupE (acons (tupE (acons (var 2) (acons (con (w1 (bw v))) anil))) anil))) ρ = .ok (.lst (((alk k).map (· ++ [(k, v)])).map knD')) := all_comp k hk v h1 h2 (.inl rfl) hl
theorem l_all_eq (m : Nat) (hm : m ≤ 6) : l_all_known [.int (m : Nat)] = .ok (.lst ((alk m).map knD')) := by
  have hsm := small62_nat' m (by omega)
  obtain ⟨ρ', e1, s2, s3, rfl⟩ := forL_all (f := forF (gSet 2) l_all_known_b0) (fun i : Nat => D.int i) (fun k ρ => ∃ s2 s3, ρ = [.pl (.int (m : Nat)), .pl (.lst ((alk k).map knD')), s2, s3])
    (List.range m) 0 [.pl (.int (m : Nat)), .pl (.lst [.tup []]), .dead, .dead] ⟨_, _, rfl⟩ (fun k i ρ hi hI => by
      obtain ⟨s2, s3, rfl⟩ := hI
      rw [Nat.zero_add]
      obtain ⟨hk, ei⟩ := List.getElem?_eq_some_iff.mp hi
      rw [List.length_range] at hk
      rw [List.getElem_range] at ei
      subst ei
      have hal := alk_len k
      have hp : 3 ^ k ≤ 3 ^ 6 := Nat.pow_le_pow_right (by decide) (by omega)
      refine ⟨_, .inl ?_, .pl (.int (k : Nat)), s3, rfl⟩
      have c1 := l_all_comp k (by omega) false (ρ := [.pl (.int (m : Nat)), .pl (.lst ((alk k).map knD')), .pl (.int (k : Nat)), s3]) rfl rfl (by simp)
      have c2 := l_all_comp k (by omega) true (ρ := [.pl (.int (m : Nat)), .pl (.lst ((alk k).map knD')), .pl (.int (k : Nat)), s3]) rfl rfl (by simp)
      have a1 := ls_add ((alk k).map knD') (((alk k).map (· ++ [(k, false)])).map knD') (by simp only [List.length_map]; omega)
      have a2 := ls_add ((alk k).map knD' ++ ((alk k).map (· ++ [(k, false)])).map knD') (((alk k).map (· ++ [(k, true)])).map knD') (by simp only [List.length_append, List.length_map]; omega)
      have e2 : ((alk (k + 1)).map knD') = ((alk k).map knD' ++ ((alk k).map (· ++ [(k, false)])).map knD') ++ ((alk k).map (· ++ [(k, true)])).map knD' := by
        show List.map knD' ((alk k ++ (alk k).map (· ++ [(k, false)])) ++ (alk k).map (· ++ [(k, true)])) = _
        rw [List.map_append, List.map_append]
      rw [e2]
      have st : ∀ X Y : EX, X [.pl (.int (m : Nat)), .pl (.lst ((alk k).map knD')), .pl (.int (k : Nat)), s3] = .ok (.lst (((alk k).map (· ++ [(k, false)])).map knD')) → Y [.pl (.int (m : Nat)), .pl (.lst ((alk k).map knD')), .pl (.int (k : Nat)), s3] = .ok (.lst (((alk k).map (· ++ [(k, true)])).map knD')) →
          sSet 1 (bin dAdd (bin dAdd (var 1) X) Y) [.pl (.int (m : Nat)), .pl (.lst ((alk k).map knD')), .pl (.int (k : Nat)), s3] = .nx [.pl (.int (m : Nat)), .pl (.lst (((alk k).map knD' ++ ((alk k).map (· ++ [(k, false)])).map knD') ++ ((alk k).map (· ++ [(k, true)])).map knD')), .pl (.int (k : Nat)), s3] := fun X Y hX hY => by
        simp only [sSet, bin, var, List.getElem?_cons_succ, List.getElem?_cons_zero, ok_bind, hX, hY, a1, a2, ofE, List.set]
      exact st _ _ c1 c2)
  rw [Nat.zero_add, List.length_range] at e1
  have hsrc : ∀ s1 s2 s3, srcR1 (var 0) [.pl (.int (m : Nat)), s1, s2, s3] = .ok ((List.range m).map fun i : Nat => D.int i) := fun s1 s2 s3 => by
    simp [hsm, rng_0']
  unfold l_all_known runB
  show (match (sSeq _ _) [.pl (.int (m : Nat)), .dead, .dead, .dead] with | .nx _ => Res.ok D.non | .rt d => .ok d | .rs c _ => .rs c | _ => .bad) = _
  simp only [sSeq, sSet, lstE, tupE, acons, anil, ok_bind, List.length_nil, List.length_cons, line_val]
  simp only [Nat.zero_le, Nat.zero_add, Nat.reduceLeDiff, if_true, ok_bind, List.length_cons, List.length_nil, ofE, List.set, sFor, hsrc, e1, sRet, var, List.getElem?_cons_succ, List.getElem?_cons_zero]
/-! a row known -/
theorem l_known_ex (s : Int) (m : Nat) (hm : m ≤ 6) : ∃ kn : KnB, KnOk m kn ∧ kn.length ≤ 6 ∧ l_known [.int s, .int (m : Nat)] = .ok (knD' kn) := by
  have hsm := small62_nat' m (by omega)
  let T : Nat → Bool := fun i => decide ((s / 7 + (i : Int)) % 3 = 0)
  let V : Nat → Bool := fun i => decide (seedZ s i / 97 % 2 = 1)
  refine ⟨((List.range m).filter T).map fun i => (i, V i), ⟨?_, ?_⟩, ?_, ?_⟩
  · rw [List.pairwise_map]
    exact (List.pairwise_lt_range (n := m)).filter _
  · intro p hp
    obtain ⟨i, hi, rfl⟩ := List.mem_map.mp hp
    exact List.mem_range.mp (List.mem_filter.mp hi).1
  · rw [List.length_map]
    have := List.length_filter_le T (List.range m)
    rw [List.length_range] at this
    omega
  have c1 : comp (srcR1 (var 1)) [2] (gSet 2) (tstB (bin dEq (bin dMod (bin dAdd (bin dDiv (var 0) (con (.int 7))) (var 2)) (con (.int 3))) (con (.int 0)))) (tupE (acons (var 2) (acons (bin dIx (con (.str [102, 116])) (callE l_pick (acons (callE l_seed (acons (var 0) (acons (var 2) anil))) (acons (con (.int 2)) anil)))) anil)))
      [.pl (.int s), .pl (.int (m : Nat)), .dead] = .ok (.lst ((((List.range m).filter T).map fun i => (i, V i)).map knP)) := by
    rw [comp_src (fun i : Nat => D.int i) (List.range m) T (fun i => knP (i, V i)) (by simp only [srcR1, var, List.getElem?_cons_succ, List.getElem?_cons_zero, ok_bind, hsm, if_true, rng_0']) (by simp; omega) (fun i hi => by
      have h1 := dDiv_pos s 7 (by decide) (by decide)
      have h2 := dMod_pos (s / 7 + (i : Int)) 3 (by decide)
      have h3 : dEq (.int ((s / 7 + (i : Int)) % 3)) (.int 0) = .ok (.bl (T i)) := by
        show _ = Res.ok (D.bl (decide _))
        by_cases h : (s / 7 + (i : Int)) % 3 = 0 <;> simp [h]
      simp only [tstB, bin, con, var, List.set, List.getElem?_cons_succ, List.getElem?_cons_zero, ok_bind, h1, dAdd_int, h2, h3]) (fun i hi _ => by
      have h1 := seed_eq s i
      have h2 := pick_eq (seedZ s i) 2 (by decide)
      have hb : seedZ s i / 97 % 2 = 0 ∨ seedZ s i / 97 % 2 = 1 := by omega
      have h3 : dIx (.str [102, 116]) (.int (seedZ s i / 97 % 2)) = .ok (w1 (bw (V i))) := by
        show _ = Res.ok (w1 (bw (decide _)))
        rcases hb with h | h <;> rw [h] <;> rfl
      simp only [tupE, callE, acons, anil, bin, con, var, List.set, List.getElem?_cons_succ, List.getElem?_cons_zero, ok_bind, h1, h2, h3, List.length_cons, List.length_nil, line_val]
      rfl)]
    rw [List.map_map]
    rfl
  have hdt : dTuple (.lst ((((List.range m).filter T).map fun i => (i, V i)).map knP)) = .ok (knD' (((List.range m).filter T).map fun i => (i, V i))) := rfl
  unfold l_known runB
  show (match (sRet _) [.pl (.int s), .pl (.int (m : Nat)), .dead] with | .nx _ => Res.ok D.non | .rt d => .ok d | .rs c _ => .rs c | _ => .bad) = _
  simp only [sRet, un, c1, ok_bind, hdt, ofE]
/-! what is refused -/
theorem told10 (b : Bk) (hb : b.ok) (d : D) (h : p_look_known [bk b, d] = .rs .badOrder) : l_told_word [.int 10, bk b, d] = .ok (.str [111, 114, 100, 101, 114]) := by
  have hto : l_told_of [.int 10, bk b, d] = .rs .badOrder := by simp [l_told_of, p_grounded_by, look_eq b hb, h]
  simp [l_told_word, hto]
theorem lk_rs0 (b : Bk) (d : D) (h : dIsi .tuple d = .ok (.bl false)) : p_look_known [bk b, d] = .rs .badOrder := by
  simp [p_look_known, h, -dIsi]
theorem within_lo (b : Bk) (h6 : b.length ≤ 6) (i lo : Int) (h : i < lo ∨ (b.length : Int) ≤ i) : p_is_within [.int i, .int lo, .int ((b.length : Int) - 1)] = .ok (.bl false) := by
  rw [within_eq]
  rcases h with h | h
  · rw [decide_eq_false (by omega)]; rfl
  · rw [decide_eq_false (by omega : ¬ i ≤ (b.length : Int) - 1), Bool.and_false]
theorem within_tr (v : Bool) (a c : D) : p_is_within [.bl v, a, c] = .ok (.bl false) := by simp [p_is_within]
theorem lkb_w (b : Bk) (h6 : b.length ≤ 6) (d y z : D) (prev : Int) (h : p_is_within [y, .int (prev + 1), .int ((b.length : Int) - 1)] = .ok (.bl false)) (s3 : Slot) :
    forF (gSet 3) p_look_known_b0 (.tup [y, z]) [.pl (bk b), .pl d, .pl (.int prev), s3] = .rs .badOrder [.pl (bk b), .pl d, .pl (.int prev), .pl (.tup [y, z])] := by
  have hlb := len_bk b h6
  have e1 : dIsi .tuple (.tup [y, z]) = .ok (.bl true) := rfl
  have e2 : dNe (.int 2) (.int 2) = .ok (.bl false) := by simp
  have e3 : dLen (.tup [y, z]) = .ok (.int 2) := rfl
  have e4 : dIx (.tup [y, z]) (.int 0) = .ok y := rfl
  have e8 : dAdd (.int prev) (.int 1) = .ok (.int (prev + 1)) := rfl
  have e9 : dSub (.int (b.length : Nat)) (.int 1) = .ok (.int ((b.length : Int) - 1)) := by simp
  have ht2 : ∀ v, dTruth (.bl v) = .ok v := fun v => rfl
  unfold forF p_look_known_b0
  simp only [gSet, List.set, sSeq, sIf, orT, notT, tst, tstB, callE, acons, anil, un, bin, con, var, List.getElem?_cons_succ, List.getElem?_cons_zero, ok_bind, e1, ht2, Bool.not_true, Bool.not_false, Bool.false_eq_true, if_false, e3, e2, e4, e8, hlb, e9, h, sRs]
theorem lkb_l (b : Bk) (d y : D) (s2 s3 : Slot) : forF (gSet 3) p_look_known_b0 (.tup [y]) [.pl (bk b), .pl d, s2, s3] = .rs .badOrder [.pl (bk b), .pl d, s2, .pl (.tup [y])] := by
  have e1 : dIsi .tuple (.tup [y]) = .ok (.bl true) := rfl
  have e2 : dNe (.int 1) (.int 2) = .ok (.bl true) := by simp
  have e3 : dLen (.tup [y]) = .ok (.int 1) := rfl
  have ht2 : ∀ v, dTruth (.bl v) = .ok v := fun v => rfl
  unfold forF p_look_known_b0
  simp only [gSet, List.set, sSeq, sIf, orT, notT, tst, tstB, un, bin, con, var, List.getElem?_cons_succ, List.getElem?_cons_zero, ok_bind, e1, ht2, Bool.not_true, Bool.false_eq_true, if_false, if_true, e3, e2, sRs]
theorem lkb_t (b : Bk) (d x : D) (h : dIsi .tuple x = .ok (.bl false)) (s2 s3 : Slot) : forF (gSet 3) p_look_known_b0 x [.pl (bk b), .pl d, s2, s3] = .rs .badOrder [.pl (bk b), .pl d, s2, .pl x] := by
  have ht2 : ∀ v, dTruth (.bl v) = .ok v := fun v => rfl
  unfold forF p_look_known_b0
  simp only [gSet, List.set, sSeq, sIf, orT, notT, tst, un, var, List.getElem?_cons_succ, List.getElem?_cons_zero, ok_bind, h, ht2, Bool.not_false, if_true, sRs]
theorem lkb_n (b : Bk) (hb : b.ok) (d : D) (s3 : Slot) : forF (gSet 3) p_look_known_b0 (.tup [.int 0, .str [110]]) [.pl (bk b), .pl d, .pl (.int (-1)), s3] = .rs .badOrder [.pl (bk b), .pl d, .pl (.int (-1)), .pl (.tup [.int 0, .str [110]])] := by
  have h1 := hb.pos
  have hlb := len_bk b hb.six
  have hw := within_eq 0 (-1 + 1) ((b.length : Int) - 1)
  rw [decide_eq_true (by omega : (-1 : Int) + 1 ≤ 0), decide_eq_true (by omega : (0 : Int) ≤ (b.length : Int) - 1)] at hw
  have e1 : dIsi .tuple (.tup [.int 0, .str [110]]) = .ok (.bl true) := rfl
  have e2 : dNe (.int 2) (.int 2) = .ok (.bl false) := by simp
  have e3 : dLen (.tup [.int 0, .str [110]]) = .ok (.int 2) := rfl
  have e4 : dIx (.tup [.int 0, .str [110]]) (.int 0) = .ok (.int 0) := rfl
  have e5 : dIx (.tup [.int 0, .str [110]]) (.int 1) = .ok (.str [110]) := rfl
  have e6 : dIsi .str (.str [110]) = .ok (.bl true) := rfl
  have e7 : dKNotIn t_SAYINGS (.str [110]) = .ok (.bl true) := by simp [t_SAYINGS, lookT]
  have e8 : dAdd (.int (-1)) (.int 1) = .ok (.int (-1 + 1)) := rfl
  have e9 : dSub (.int (b.length : Nat)) (.int 1) = .ok (.int ((b.length : Int) - 1)) := by simp
  have ht2 : ∀ v, dTruth (.bl v) = .ok v := fun v => rfl
  unfold forF p_look_known_b0
  simp only [gSet, List.set, sSeq, sIf, orT, notT, tst, tstB, callE, acons, anil, un, bin, con, var, List.getElem?_cons_succ, List.getElem?_cons_zero, ok_bind, e1, ht2, Bool.not_true, Bool.false_eq_true, if_false, e3, e2, e4, e8, hlb, e9, hw, Bool.and_self, sNx, e5, e6, e7, sRs]
theorem lk_rs1 (b : Bk) (l : List D) (ρ' : Env) (h : forL (forF (gSet 3) p_look_known_b0) l [.pl (bk b), .pl (.tup l), .pl (.int (-1)), .dead] = .rs .badOrder ρ') : p_look_known [bk b, .tup l] = .rs .badOrder := by
  have e1 : dIsi .tuple (.tup l) = .ok (.bl true) := rfl
  have ht2 : ∀ v, dTruth (.bl v) = .ok v := fun v => rfl
  have e2 : dNeg (.int 1) = .ok (.int (-1)) := rfl
  have hsrc : src (var 1) [.pl (bk b), .pl (.tup l), .pl (.int (-1)), .dead] = .ok l := rfl
  unfold p_look_known runB
  show (match (sSeq _ _) [.pl (bk b), .pl (.tup l), .dead, .dead] with | .nx _ => Res.ok D.non | .rt d => .ok d | .rs c _ => .rs c | _ => .bad) = _
  simp only [sSeq, sIf, notT, tst, un, con, var, List.getElem?_cons_succ, List.getElem?_cons_zero, ok_bind, e1, ht2, Bool.not_true, sNx, sSet, e2, ofE, List.set, sFor, hsrc, h]
theorem forL_rs {f : D → Env → Out} {x : D} {l : List D} {ρ ρ' : Env} {c : Exc} (h : f x ρ = .rs c ρ') : forL f (x :: l) ρ = .rs c ρ' := by
  unfold forL
  rw [h]
theorem forL_nx {f : D → Env → Out} {x : D} {l : List D} {ρ ρ' : Env} {o : Out} (h : f x ρ = .nx ρ') (k : forL f l ρ' = o) : forL f (x :: l) ρ = o := by
  unfold forL
  rw [h]
  exact k
def oddK (b : Bk) : List D := [.non, .tup [.tup [.int (b.length : Nat), .str [116]]], .tup [.tup [.int 0, .str [110]]], .lst [.tup [.int 0, .str [116]]], .tup [.tup [.int 0, .str [116]], .tup [.int 0, .str [116]]], .tup [.tup [.int 0]], .tup [.tup [.bl true, .str [116]]], .tup [.int 0, .str [116]]]
theorem oddK_all (b : Bk) (hb : b.ok) (j : Nat) (hj : j < 8) : ∃ d, dIx (.lst (oddK b)) (.int (j : Nat)) = .ok d ∧ l_told_word [.int 10, bk b, d] = .ok (.str [111, 114, 100, 101, 114]) := by
  have h1 := hb.pos
  have h6 := hb.six
  match j, hj with
  | 0, _ => exact ⟨_, rfl, told10 b hb _ (lk_rs0 b _ rfl)⟩
  | 1, _ => exact ⟨_, rfl, told10 b hb _ (lk_rs1 b _ _ (forL_rs (lkb_w b h6 _ _ _ _ (within_lo b h6 _ _ (.inr (by omega))) _)))⟩
  | 2, _ => exact ⟨_, rfl, told10 b hb _ (lk_rs1 b _ _ (forL_rs (lkb_n b hb _ _)))⟩
  | 3, _ => exact ⟨_, rfl, told10 b hb _ (lk_rs0 b _ rfl)⟩
  | 4, _ =>
    obtain ⟨z, s, hl⟩ := look_known_loop b h6 (.tup [.tup [.int 0, .str [116]], .tup [.int 0, .str [116]]]) [(0, true)] (-1) .dead (by omega) (fun p hp => by rw [List.mem_singleton.mp hp]; exact ⟨by decide, h1⟩) (by simp)
    refine ⟨_, rfl, told10 b hb _ (lk_rs1 b _ _ (forL_nx (ρ' := [.pl (bk b), .pl (.tup [.tup [.int 0, .str [116]], .tup [.int 0, .str [116]]]), .pl (.int 0), .pl (.tup [.int 0, .str [116]])]) ?_ (forL_rs (lkb_w b h6 _ _ _ _ (within_lo b h6 _ _ (.inl (by decide))) _))))⟩
    have hlb := len_bk b h6
    have hw := within_eq 0 (-1 + 1) ((b.length : Int) - 1)
    rw [decide_eq_true (by omega : (-1 : Int) + 1 ≤ 0), decide_eq_true (by omega : (0 : Int) ≤ (b.length : Int) - 1)] at hw
    have e1 : dIsi .tuple (.tup [.int 0, .str [116]]) = .ok (.bl true) := rfl
    have e2 : dNe (.int 2) (.int 2) = .ok (.bl false) := by simp
    have e3 : dLen (.tup [.int 0, .str [116]]) = .ok (.int 2) := rfl
    have e4 : dIx (.tup [.int 0, .str [116]]) (.int 0) = .ok (.int 0) := rfl
    have e5 : dIx (.tup [.int 0, .str [116]]) (.int 1) = .ok (.str [116]) := rfl
    have e6 : dIsi .str (.str [116]) = .ok (.bl true) := rfl
    have e7 : dKNotIn t_SAYINGS (.str [116]) = .ok (.bl false) := by simp [t_SAYINGS, lookT]
    have e8 : dAdd (.int (-1)) (.int 1) = .ok (.int (-1 + 1)) := rfl
    have e9 : dSub (.int (b.length : Nat)) (.int 1) = .ok (.int ((b.length : Int) - 1)) := by simp
    have ht2 : ∀ v, dTruth (.bl v) = .ok v := fun v => rfl
    unfold forF p_look_known_b0
    simp only [gSet, List.set, sSeq, sIf, orT, notT, tst, tstB, callE, acons, anil, un, bin, con, var, List.getElem?_cons_succ, List.getElem?_cons_zero, ok_bind, e1, ht2, Bool.not_true, Bool.false_eq_true, if_false, e3, e2, e4, e8, hlb, e9, hw, Bool.and_self, sNx, e5, e6, e7, sSet, ofE]
  | 5, _ => exact ⟨_, rfl, told10 b hb _ (lk_rs1 b _ _ (forL_rs (lkb_l b _ _ _ _)))⟩
  | 6, _ => exact ⟨_, rfl, told10 b hb _ (lk_rs1 b _ _ (forL_rs (lkb_w b h6 _ _ _ _ (within_tr _ _ _) _)))⟩
  | 7, _ => exact ⟨_, rfl, told10 b hb _ (lk_rs1 b _ _ (forL_rs (lkb_t b _ _ rfl _ _)))⟩
theorem t1_eq (ns : List Int) (b : Bk) (hb : b.ok) (s3 s4 s5 s6 s7 : Slot) : law_t1 [.pl (.scr ns), .pl (bk b), .pl (.int (b.length : Nat)), s3, s4, s5, s6, s7] = .rt (.bl true) := by
  obtain ⟨c5, hc⟩ := cell_eq ns 5
  have hc' : l_cell [.scr ns, .int 5] = .ok (.int c5) := hc
  obtain ⟨j, hj, ej⟩ := at_mod c5 8 (by decide)
  have hm := dMod_pos c5 8 (by decide)
  have ej' : c5 % 8 = (j : Int) := ej
  rw [ej'] at hm
  obtain ⟨d, h1, h2⟩ := oddK_all b hb j hj
  have hq := dsame_eq (.str [111, 114, 100, 101, 114]) (by decide)
  have st : (sSet 7 (lstE (acons (con .non) (acons (tupE (acons (tupE (acons (var 2) (acons (con (.str [116])) anil))) anil)) (acons (tupE (acons (tupE (acons (con (.int 0)) (acons (con (.str [110])) anil))) anil)) (acons (lstE (acons (tupE (acons (con (.int 0)) (acons (con (.str [116])) anil))) anil)) (acons (tupE (acons (tupE (acons (con (.int 0)) (acons (con (.str [116])) anil))) (acons (tupE (acons (con (.int 0)) (acons (con (.str [116])) anil))) anil))) (acons (tupE (acons (tupE (acons (con (.int 0)) anil)) anil)) (acons (tupE (acons (tupE (acons (con (.bl true)) (acons (con (.str [116])) anil))) anil)) (acons (tupE (acons (con (.int 0)) (acons (con (.str [116])) anil))) anil))))))))))
      [.pl (.scr ns), .pl (bk b), .pl (.int (b.length : Nat)), s3, s4, s5, s6, s7] = .nx [.pl (.scr ns), .pl (bk b), .pl (.int (b.length : Nat)), s3, s4, s5, s6, .pl (.lst (oddK b))] := by
    unfold oddK
    generalize bk b = B
    simp [line_val]
  unfold law_t1
  simp only [sSeq, st]
  unfold law_t0
  simp only [sRet, bin, callE, acons, anil, con, var, List.getElem?_cons_succ, List.getElem?_cons_zero, ok_bind, hc', hm, h1, h2, hq, ofE]
theorem t3_eq (ns : List Int) (b c : Bk) (hb : b.ok) (hc : c.ok) (s3 s6 : Slot) : law_t3 [.pl (.scr ns), .pl (bk b), .pl (.int (b.length : Nat)), s3, .own (.lst []), .pl (bk c), s6, .dead] = .rt (.bl true) := by
  have h6 := hc.six
  have hlb := len_bk c h6
  have hal := l_all_eq c.length h6
  have hp : 3 ^ c.length ≤ 3 ^ 6 := Nat.pow_le_pow_right (by decide) h6
  have hlen := alk_len c.length
  obtain ⟨ρ', e1, s6', rfl⟩ := forL_all (f := forF (gSet 6) law_b0) knD' (fun k ρ => ∃ s6, ρ = [.pl (.scr ns), .pl (bk b), .pl (.int (b.length : Nat)), s3, .own (.lst ((((alk c.length).take k).filter (allK c)).map rowD)), .pl (bk c), s6, .dead])
    (alk c.length) 0 [.pl (.scr ns), .pl (bk b), .pl (.int (b.length : Nat)), s3, .own (.lst []), .pl (bk c), s6, .dead] ⟨_, rfl⟩ (fun i kn ρ hkn hI => by
      obtain ⟨s6, rfl⟩ := hI
      rw [Nat.zero_add]
      have hmem := List.mem_of_getElem? hkn
      obtain ⟨k1, k2⟩ := alk_ok c.length kn hmem
      have hg := l_grounded_eq c hc kn k1 (by omega)
      have hin := in_tx (c.knw kn).lst
      have hli : dLen (knD' kn) = .ok (.int (kn.length : Nat)) := by
        have : kn.length ≤ 16777216 := by omega
        unfold knD'
        simp [this]
      have ht : (alk c.length).take (i + 1) = (alk c.length).take i ++ [kn] := by rw [List.take_add_one, hkn]; rfl
      refine ⟨_, .inl ?_, .pl (knD' kn), rfl⟩
      rw [ht, List.filter_append, List.map_append]
      have hsz : ((((alk c.length).take i).filter (allK c)).map rowD).length < 16777216 := by
        rw [List.length_map]
        have h1 := List.length_filter_le (allK c) ((alk c.length).take i)
        rw [List.length_take] at h1
        omega
      unfold forF law_b0
      unfold allK at *
      by_cases q : Wo.n ∈ (c.knw kn).lst
      · rw [decide_eq_true q] at hin
        rw [List.filter_cons, if_neg (by simp [q])]
        simp only [gSet, List.set, sIf, tstB, bin, callE, con, acons, anil, var, List.getElem?_cons_succ, List.getElem?_cons_zero, ok_bind, hg, hin, Bool.not_true, sNx, List.filter_nil, List.map_nil, List.append_nil]
      · rw [decide_eq_false q] at hin
        rw [List.filter_cons, if_pos (by simp [q])]
        simp only [gSet, List.set, sIf, tstB, bin, callE, con, acons, anil, var, List.getElem?_cons_succ, List.getElem?_cons_zero, ok_bind, hg, hin, Bool.not_false, sApp, tupE, un, hli, List.length_cons, List.length_nil, line_val]
        simp only [Nat.zero_add, Nat.reduceAdd, Nat.reduceLeDiff, if_true, ok_bind, hsz, List.length_cons, List.length_nil, ofE, List.set, List.filter_nil, List.map_cons, List.map_nil]
        rfl)
  rw [Nat.zero_add, List.take_length] at e1
  have hfl : ((alk c.length).filter (allK c)).length ≤ 100000 := by
    have := List.length_filter_le (allK c) (alk c.length)
    omega
  obtain ⟨kn, hkn, hm⟩ := min_row _ (few_ne c hc) hfl
  have hfe := fewest_eq c hc kn hm
  have hix : dIx (rowD kn) (.int 1) = .ok (knD' kn) := rfl
  have hne := dsame_ne _ (knD_good kn)
  have ht := t1_eq ns b hb s3 (.own (.lst (((alk c.length).filter (allK c)).map rowD))) (.pl (bk c)) s6' .dead
  have hsrc : src (callE l_all_known (acons (un dLen (var 5)) anil)) [.pl (.scr ns), .pl (bk b), .pl (.int (b.length : Nat)), s3, .own (.lst []), .pl (bk c), s6, .dead] = .ok ((alk c.length).map knD') := by
    simp only [src, callE, acons, anil, un, var, List.getElem?_cons_succ, List.getElem?_cons_zero, ok_bind, hlb, hal, itemsK]
  unfold law_t3
  simp only [sSeq, sFor, hsrc, e1]
  unfold law_t2
  simp only [sSeq, sIf, tstB, bin, un, callE, acons, anil, con, var, varB, List.getElem?_cons_succ, List.getElem?_cons_zero, ok_bind, hfe, hm, hix, hne, sNx]
  exact ht
theorem law_holds : ∀ ns : List Int, ns.length ≤ 63 → law [.scr ns] = .ok (.bl true) := by
  intro ns _
  obtain ⟨b, hb, eb⟩ := l_book_ex ns 0
  have h6 := hb.six
  have h1 := hb.pos
  have eb' : l_book [.scr ns, .int 0] = .ok (bk b) := by simpa using eb
  have hlb := len_bk b h6
  obtain ⟨c4, hc4⟩ := cell_eq ns 4
  have hc4' : l_cell [.scr ns, .int 4] = .ok (.int c4) := hc4
  have hse : l_seed [.int c4, .int 1] = .ok (.int (seedZ c4 1)) := seed_eq c4 1
  obtain ⟨kn, k1, k2, k3⟩ := l_known_ex (seedZ c4 1) b.length h6
  have g1 := grounded_by_eq b hb kn k1
  have g2 := l_grounded_eq b hb kn k1 (by omega)
  have hne := tx_ne (b.knw kn).lst (b.knw kn).lst
  rw [decide_eq_false (by simp)] at hne
  have hcut : l_cut [bk b, .int 4] = .ok (bk (b.cutK 4)) := l_cut_eq b hb 4 (by decide)
  have hck := cutK_ok b hb 4 (by decide)
  have ht := t3_eq ns b (b.cutK 4) hb hck (.pl (knD' kn)) .dead
  unfold law
  simp only [runB, List.map_cons, List.map_nil, List.length_cons, List.length_nil, List.cons_append, List.nil_append, List.replicate, sSeq, sSet, callE, acons, anil, con, var, List.getElem?_cons_succ, List.getElem?_cons_zero, ok_bind, eb', ofE, List.set]
  unfold law_t8
  simp only [sSeq, sSet, un, var, List.getElem?_cons_succ, List.getElem?_cons_zero, ok_bind, hlb, ofE, List.set]
  unfold law_t7
  simp only [sSeq, sSet, callE, acons, anil, con, var, List.getElem?_cons_succ, List.getElem?_cons_zero, ok_bind, hc4', hse, k3, ofE, List.set]
  unfold law_t6
  simp only [sSeq, sIf, tstB, bin, callE, acons, anil, var, List.getElem?_cons_succ, List.getElem?_cons_zero, ok_bind, g1, g2, hne, sNx]
  unfold law_t5
  simp only [sSeq, sOwn, lstE, anil, ok_bind, List.length_nil, Nat.zero_le, if_true, ofE, List.set]
  unfold law_t4
  simp only [sSeq, sSet, callE, acons, anil, con, var, List.getElem?_cons_succ, List.getElem?_cons_zero, ok_bind, hcut, ofE, List.set]
  rw [ht]
end SR

set_option linter.all false
set_option Elab.async false
set_option maxRecDepth 100000
open PySem PySem.W PyProof.Rows
set_option maxHeartbeats 0 in
theorem PySem.Challenge.cw_saidround_k23_grounding_holds : PySem.Challenge.rw_saidround_k23_grounding.Holds := by
  w_on; o_law; k_head; (case hw => w_witness2)
  k_fill
  refine SR.end_of (l := PySem.Challenge.rw_saidround_k23_grounding) (n := 63) (k := 15) (x := "_law_script") (run := SR.law) rfl (by decide) rfl ⟨rfl, by decide, by decide⟩ (fun w h Y => PySem.W.kIn_of Y) ?F SR.law_holds
  case F =>
    intro w mg h KX G
    refine' SR.andThen (mg_none_of (n := "bool") KX G ?a0) ?next0; (case a0 => k_is); intro m_bool
    refine' SR.andThen (mg_none_of (n := "dict") KX G ?a1) ?next1; (case a1 => k_is); intro m_dict
    refine' SR.andThen (mg_none_of (n := "enumerate") KX G ?a2) ?next2; (case a2 => k_is); intro m_enumerate
    refine' SR.andThen (mg_none_of (n := "int") KX G ?a3) ?next3; (case a3 => k_is); intro m_int
    refine' SR.andThen (mg_none_of (n := "isinstance") KX G ?a4) ?next4; (case a4 => k_is); intro m_isinstance
    refine' SR.andThen (mg_none_of (n := "len") KX G ?a5) ?next5; (case a5 => k_is); intro m_len
    refine' SR.andThen (mg_none_of (n := "list") KX G ?a6) ?next6; (case a6 => k_is); intro m_list
    refine' SR.andThen (mg_none_of (n := "max") KX G ?a7) ?next7; (case a7 => k_is); intro m_max
    refine' SR.andThen (mg_none_of (n := "min") KX G ?a8) ?next8; (case a8 => k_is); intro m_min
    refine' SR.andThen (mg_none_of (n := "range") KX G ?a9) ?next9; (case a9 => k_is); intro m_range
    refine' SR.andThen (mg_none_of (n := "set") KX G ?a10) ?next10; (case a10 => k_is); intro m_set
    refine' SR.andThen (mg_none_of (n := "sorted") KX G ?a11) ?next11; (case a11 => k_is); intro m_sorted
    refine' SR.andThen (mg_none_of (n := "str") KX G ?a12) ?next12; (case a12 => k_is); intro m_str
    refine' SR.andThen (mg_none_of (n := "tuple") KX G ?a13) ?next13; (case a13 => k_is); intro m_tuple
    refine' SR.andThen (mg_none_of (n := "zip") KX G ?a14) ?next14; (case a14 => k_is); intro m_zip
    refine' SR.andThen (SR.gint_of (x := "MOST_SAYINGS") KX G ?a15) ?next15; (case a15 => k_is); intro g_MOST_SAYINGS
    refine' SR.andThen (SR.gint_of (x := "MOST_DEEP") KX G ?a16) ?next16; (case a16 => k_is); intro g_MOST_DEEP
    refine' SR.andThen (SR.gstr_of (x := "WORTHS") (y := [102, 110, 116]) KX G ?a17 ?b17) ?next17; (case a17 => k_is); (case b17 => kernel_rfl); intro g_WORTHS
    refine' SR.andThen (SR.ktop (w := w) (x := "SIZES") (ps := SR.t_SIZES) KX G ?a18 ?l18 ?k18 ?o18 ?e18) ?next18; (case a18 => k_is); (case l18 => k_is); (case k18 => k_keys); (case o18 => decide); (case e18 => exact (.cons ⟨_, _, .int 1, rfl, (by kernel_rfl), ⟨_, rfl⟩, fun _ => .int _⟩ (.cons ⟨_, _, .int 1, rfl, (by kernel_rfl), ⟨_, rfl⟩, fun _ => .int _⟩ (.cons ⟨_, _, .int 2, rfl, (by kernel_rfl), ⟨_, rfl⟩, fun _ => .int _⟩ (.cons ⟨_, _, .int 2, rfl, (by kernel_rfl), ⟨_, rfl⟩, fun _ => .int _⟩ (.cons ⟨_, _, .int 3, rfl, (by kernel_rfl), ⟨_, rfl⟩, fun _ => .int _⟩ (.cons ⟨_, _, .int 3, rfl, (by kernel_rfl), ⟨_, rfl⟩, fun _ => .int _⟩ (.cons ⟨_, _, .int 4, rfl, (by kernel_rfl), ⟨_, rfl⟩, fun _ => .int _⟩ .nil)))))))); intro k_SIZES
    refine' SR.andThen (SR.ktop (w := w) (x := "SAYINGS") (ps := SR.t_SAYINGS) KX G ?a19 ?l19 ?k19 ?o19 ?e19) ?next19; (case a19 => k_is); (case l19 => k_is); (case k19 => k_keys); (case o19 => decide); (case e19 => exact (.cons (SR.ent_yn rfl (by kernel_rfl) rfl (by k_is) (by kernel_rfl) (.inl rfl)) (.cons (SR.ent_yn rfl (by kernel_rfl) rfl (by k_is) (by kernel_rfl) (.inr rfl)) .nil))); intro k_SAYINGS
    refine' SR.andThen (SR.excc (x := "SayError") KX G ?a20 ?e20 ?k20 ?r20 ?t20) ?next20; (case a20 => k_is); (case e20 => k_exc); (case k20 => k_is); (case r20 => k_is); (case t20 => k_is); intro e_SayError
    refine' SR.andThen (SR.excc (x := "BadBook") KX G ?a21 ?e21 ?k21 ?r21 ?t21) ?next21; (case a21 => k_is); (case e21 => k_exc); (case k21 => k_is); (case r21 => k_is); (case t21 => k_is); intro e_BadBook
    refine' SR.andThen (SR.excc (x := "BadTelling") KX G ?a22 ?e22 ?k22 ?r22 ?t22) ?next22; (case a22 => k_is); (case e22 => k_exc); (case k22 => k_is); (case r22 => k_is); (case t22 => k_is); intro e_BadTelling
    refine' SR.andThen (SR.excc (x := "BadSaying") KX G ?a23 ?e23 ?k23 ?r23 ?t23) ?next23; (case a23 => k_is); (case e23 => k_exc); (case k23 => k_is); (case r23 => k_is); (case t23 => k_is); intro e_BadSaying
    refine' SR.andThen (SR.excc (x := "BadOrder") KX G ?a24 ?e24 ?k24 ?r24 ?t24) ?next24; (case a24 => k_is); (case e24 => k_exc); (case k24 => k_is); (case r24 => k_is); (case t24 => k_is); intro e_BadOrder
    refine' SR.andThen (SR.excc (x := "TooDeep") KX G ?a25 ?e25 ?k25 ?r25 ?t25) ?next25; (case a25 => k_is); (case e25 => k_exc); (case k25 => k_is); (case r25 => k_is); (case t25 => k_is); intro e_TooDeep
    refine' SR.andThen (SR.exm1 false e_SayError e_BadBook ?a26) ?next26; (case a26 => kts_exm); intro x_SayError_BadBook
    refine' SR.andThen (SR.exm1 true e_BadBook e_BadBook ?a27) ?next27; (case a27 => kts_exm); intro x_BadBook_BadBook
    refine' SR.andThen (SR.exm1 false e_BadTelling e_BadBook ?a28) ?next28; (case a28 => kts_exm); intro x_BadTelling_BadBook
    refine' SR.andThen (SR.exm1 false e_BadSaying e_BadBook ?a29) ?next29; (case a29 => kts_exm); intro x_BadSaying_BadBook
    refine' SR.andThen (SR.exm1 false e_BadOrder e_BadBook ?a30) ?next30; (case a30 => kts_exm); intro x_BadOrder_BadBook
    refine' SR.andThen (SR.exm1 false e_TooDeep e_BadBook ?a31) ?next31; (case a31 => kts_exm); intro x_TooDeep_BadBook
    refine' SR.andThen (SR.exm1 false e_SayError e_BadOrder ?a32) ?next32; (case a32 => kts_exm); intro x_SayError_BadOrder
    refine' SR.andThen (SR.exm1 false e_BadBook e_BadOrder ?a33) ?next33; (case a33 => kts_exm); intro x_BadBook_BadOrder
    refine' SR.andThen (SR.exm1 false e_BadTelling e_BadOrder ?a34) ?next34; (case a34 => kts_exm); intro x_BadTelling_BadOrder
    refine' SR.andThen (SR.exm1 false e_BadSaying e_BadOrder ?a35) ?next35; (case a35 => kts_exm); intro x_BadSaying_BadOrder
    refine' SR.andThen (SR.exm1 true e_BadOrder e_BadOrder ?a36) ?next36; (case a36 => kts_exm); intro x_BadOrder_BadOrder
    refine' SR.andThen (SR.exm1 false e_TooDeep e_BadOrder ?a37) ?next37; (case a37 => kts_exm); intro x_TooDeep_BadOrder
    refine' SR.andThen (SR.exm1 false e_SayError e_BadSaying ?a38) ?next38; (case a38 => kts_exm); intro x_SayError_BadSaying
    refine' SR.andThen (SR.exm1 false e_BadBook e_BadSaying ?a39) ?next39; (case a39 => kts_exm); intro x_BadBook_BadSaying
    refine' SR.andThen (SR.exm1 false e_BadTelling e_BadSaying ?a40) ?next40; (case a40 => kts_exm); intro x_BadTelling_BadSaying
    refine' SR.andThen (SR.exm1 true e_BadSaying e_BadSaying ?a41) ?next41; (case a41 => kts_exm); intro x_BadSaying_BadSaying
    refine' SR.andThen (SR.exm1 false e_BadOrder e_BadSaying ?a42) ?next42; (case a42 => kts_exm); intro x_BadOrder_BadSaying
    refine' SR.andThen (SR.exm1 false e_TooDeep e_BadSaying ?a43) ?next43; (case a43 => kts_exm); intro x_TooDeep_BadSaying
    refine' SR.andThen (SR.exm1 false e_SayError e_BadTelling ?a44) ?next44; (case a44 => kts_exm); intro x_SayError_BadTelling
    refine' SR.andThen (SR.exm1 false e_BadBook e_BadTelling ?a45) ?next45; (case a45 => kts_exm); intro x_BadBook_BadTelling
    refine' SR.andThen (SR.exm1 true e_BadTelling e_BadTelling ?a46) ?next46; (case a46 => kts_exm); intro x_BadTelling_BadTelling
    refine' SR.andThen (SR.exm1 false e_BadSaying e_BadTelling ?a47) ?next47; (case a47 => kts_exm); intro x_BadSaying_BadTelling
    refine' SR.andThen (SR.exm1 false e_BadOrder e_BadTelling ?a48) ?next48; (case a48 => kts_exm); intro x_BadOrder_BadTelling
    refine' SR.andThen (SR.exm1 false e_TooDeep e_BadTelling ?a49) ?next49; (case a49 => kts_exm); intro x_TooDeep_BadTelling
    refine' SR.andThen (SR.exm1 false e_SayError e_TooDeep ?a50) ?next50; (case a50 => kts_exm); intro x_SayError_TooDeep
    refine' SR.andThen (SR.exm1 false e_BadBook e_TooDeep ?a51) ?next51; (case a51 => kts_exm); intro x_BadBook_TooDeep
    refine' SR.andThen (SR.exm1 false e_BadTelling e_TooDeep ?a52) ?next52; (case a52 => kts_exm); intro x_BadTelling_TooDeep
    refine' SR.andThen (SR.exm1 false e_BadSaying e_TooDeep ?a53) ?next53; (case a53 => kts_exm); intro x_BadSaying_TooDeep
    refine' SR.andThen (SR.exm1 false e_BadOrder e_TooDeep ?a54) ?next54; (case a54 => kts_exm); intro x_BadOrder_TooDeep
    refine' SR.andThen (SR.exm1 true e_TooDeep e_TooDeep ?a55) ?next55; (case a55 => kts_exm); intro x_TooDeep_TooDeep
    refine' SR.andThen (SR.defk (x := "_wall") (qual := "_wall") (st := SR.topS 0) (ps := ["k"]) KX G (fun _ _ _ _ _ _ us hl => match us, hl with | [_], _ => rfl) ?a56 ?l56 ?c56 ?k56) ?next56; (case a56 => k_is); (case l56 => k_is); (case c56 => k_is); (case k56 => k_is); intro d__wall
    refine' SR.andThen (SR.defk (x := "is_within") (qual := "is_within") (st := SR.topS 13) (ps := ["thing", "low", "high"]) KX G (fun _ _ _ _ _ _ us hl => match us, hl with | [_, _, _], _ => rfl) ?a57 ?l57 ?c57 ?k57) ?next57; (case a57 => k_is); (case l57 => k_is); (case c57 => k_is); (case k57 => k_is); intro d_is_within
    refine' SR.andThen (SR.defk (x := "is_row") (qual := "is_row") (st := SR.topS 14) (ps := ["many", "thing"]) KX G (fun _ _ _ _ _ _ us hl => match us, hl with | [_, _], _ => rfl) ?a58 ?l58 ?c58 ?k58) ?next58; (case a58 => k_is); (case l58 => k_is); (case c58 => k_is); (case k58 => k_is); intro d_is_row
    refine' SR.andThen (SR.defk (x := "is_saying") (qual := "is_saying") (st := SR.topS 15) (ps := ["many", "thing", "deep"]) KX G (fun _ _ _ _ _ _ us hl => match us, hl with | [_, _, _], _ => rfl) ?a59 ?l59 ?c59 ?k59) ?next59; (case a59 => k_is); (case l59 => k_is); (case c59 => k_is); (case k59 => k_is); intro d_is_saying
    refine' SR.andThen (SR.defk (x := "is_book") (qual := "is_book") (st := SR.topS 16) (ps := ["thing"]) KX G (fun _ _ _ _ _ _ us hl => match us, hl with | [_], _ => rfl) ?a60 ?l60 ?c60 ?k60) ?next60; (case a60 => k_is); (case l60 => k_is); (case c60 => k_is); (case k60 => k_is); intro d_is_book
    refine' SR.andThen (SR.defk (x := "look") (qual := "look") (st := SR.topS 17) (ps := ["thing"]) KX G (fun _ _ _ _ _ _ us hl => match us, hl with | [_], _ => rfl) ?a61 ?l61 ?c61 ?k61) ?next61; (case a61 => k_is); (case l61 => k_is); (case c61 => k_is); (case k61 => k_is); intro d_look
    refine' SR.andThen (SR.defk (x := "is_telling") (qual := "is_telling") (st := SR.topS 18) (ps := ["book", "thing"]) KX G (fun _ _ _ _ _ _ us hl => match us, hl with | [_, _], _ => rfl) ?a62 ?l62 ?c62 ?k62) ?next62; (case a62 => k_is); (case l62 => k_is); (case c62 => k_is); (case k62 => k_is); intro d_is_telling
    refine' SR.andThen (SR.defk (x := "look_telling") (qual := "look_telling") (st := SR.topS 19) (ps := ["book", "thing"]) KX G (fun _ _ _ _ _ _ us hl => match us, hl with | [_, _], _ => rfl) ?a63 ?l63 ?c63 ?k63) ?next63; (case a63 => k_is); (case l63 => k_is); (case c63 => k_is); (case k63 => k_is); intro d_look_telling
    refine' SR.andThen (SR.defk (x := "look_number") (qual := "look_number") (st := SR.topS 20) (ps := ["book", "thing"]) KX G (fun _ _ _ _ _ _ us hl => match us, hl with | [_, _], _ => rfl) ?a64 ?l64 ?c64 ?k64) ?next64; (case a64 => k_is); (case l64 => k_is); (case c64 => k_is); (case k64 => k_is); intro d_look_number
    refine' SR.andThen (SR.defk (x := "turned") (qual := "turned") (st := SR.topS 21) (ps := ["worth"]) KX G (fun _ _ _ _ _ _ us hl => match us, hl with | [_], _ => rfl) ?a65 ?l65 ?c65 ?k65) ?next65; (case a65 => k_is); (case l65 => k_is); (case c65 => k_is); (case k65 => k_is); intro d_turned
    refine' SR.andThen (SR.defk (x := "of_many") (qual := "of_many") (st := SR.topS 22) (ps := ["low", "high", "worths"]) KX G (fun _ _ _ _ _ _ us hl => match us, hl with | [_, _, _], _ => rfl) ?a66 ?l66 ?c66 ?k66) ?next66; (case a66 => k_is); (case l66 => k_is); (case c66 => k_is); (case k66 => k_is); intro d_of_many
    refine' SR.andThen (SR.defk (x := "worth_of") (qual := "worth_of") (st := SR.topS 23) (ps := ["telling", "saying"]) KX G (fun _ _ _ _ _ _ us hl => match us, hl with | [_, _], _ => rfl) ?a67 ?l67 ?c67 ?k67) ?next67; (case a67 => k_is); (case l67 => k_is); (case c67 => k_is); (case k67 => k_is); intro d_worth_of
    refine' SR.andThen (SR.defk (x := "next_of") (qual := "next_of") (st := SR.topS 24) (ps := ["book", "telling"]) KX G (fun _ _ _ _ _ _ us hl => match us, hl with | [_, _], _ => rfl) ?a68 ?l68 ?c68 ?k68) ?next68; (case a68 => k_is); (case l68 => k_is); (case c68 => k_is); (case k68 => k_is); intro d_next_of
    refine' SR.andThen (SR.defk (x := "rounds_from") (qual := "rounds_from") (st := SR.topS 26) (ps := ["book", "telling"]) KX G (fun _ _ _ _ _ _ us hl => match us, hl with | [_, _], _ => rfl) ?a69 ?l69 ?c69 ?k69) ?next69; (case a69 => k_is); (case l69 => k_is); (case c69 => k_is); (case k69 => k_is); intro d_rounds_from
    refine' SR.andThen (SR.defk (x := "could_be") (qual := "could_be") (st := SR.topS 27) (ps := ["book", "known", "at"]) KX G (fun _ _ _ _ _ _ us hl => match us, hl with | [_, _, _], _ => rfl) ?a70 ?l70 ?c70 ?k70) ?next70; (case a70 => k_is); (case l70 => k_is); (case c70 => k_is); (case k70 => k_is); intro d_could_be
    refine' SR.andThen (SR.defk (x := "all_of") (qual := "all_of") (st := SR.topS 28) (ps := ["book"]) KX G (fun _ _ _ _ _ _ us hl => match us, hl with | [_], _ => rfl) ?a71 ?l71 ?c71 ?k71) ?next71; (case a71 => k_is); (case l71 => k_is); (case c71 => k_is); (case k71 => k_is); intro d_all_of
    refine' SR.andThen (SR.defk (x := "look_known") (qual := "look_known") (st := SR.topS 31) (ps := ["book", "known"]) KX G (fun _ _ _ _ _ _ us hl => match us, hl with | [_, _], _ => rfl) ?a72 ?l72 ?c72 ?k72) ?next72; (case a72 => k_is); (case l72 => k_is); (case c72 => k_is); (case k72 => k_is); intro d_look_known
    refine' SR.andThen (SR.defk (x := "with_known") (qual := "with_known") (st := SR.topS 32) (ps := ["book", "known"]) KX G (fun _ _ _ _ _ _ us hl => match us, hl with | [_, _], _ => rfl) ?a73 ?l73 ?c73 ?k73) ?next73; (case a73 => k_is); (case l73 => k_is); (case c73 => k_is); (case k73 => k_is); intro d_with_known
    refine' SR.andThen (SR.defk (x := "grounded_of") (qual := "grounded_of") (st := SR.topS 33) (ps := ["book", "known"]) KX G (fun _ _ _ _ _ _ us hl => match us, hl with | [_, _], _ => rfl) ?a74 ?l74 ?c74 ?k74) ?next74; (case a74 => k_is); (case l74 => k_is); (case c74 => k_is); (case k74 => k_is); intro d_grounded_of
    refine' SR.andThen (SR.defk (x := "grounded_by") (qual := "grounded_by") (st := SR.topS 34) (ps := ["book", "known"]) KX G (fun _ _ _ _ _ _ us hl => match us, hl with | [_, _], _ => rfl) ?a75 ?l75 ?c75 ?k75) ?next75; (case a75 => k_is); (case l75 => k_is); (case c75 => k_is); (case k75 => k_is); intro d_grounded_by
    refine' SR.andThen (SR.defk (x := "all_known") (qual := "all_known") (st := SR.topS 35) (ps := ["many"]) KX G (fun _ _ _ _ _ _ us hl => match us, hl with | [_], _ => rfl) ?a76 ?l76 ?c76 ?k76) ?next76; (case a76 => k_is); (case l76 => k_is); (case c76 => k_is); (case k76 => k_is); intro d_all_known
    refine' SR.andThen (SR.defk (x := "fewest_known") (qual := "fewest_known") (st := SR.topS 36) (ps := ["book"]) KX G (fun _ _ _ _ _ _ us hl => match us, hl with | [_], _ => rfl) ?a77 ?l77 ?c77 ?k77) ?next77; (case a77 => k_is); (case l77 => k_is); (case c77 => k_is); (case k77 => k_is); intro d_fewest_known
    refine' SR.andThen (SR.defk (x := "always_alike") (qual := "always_alike") (st := SR.topS 38) (ps := ["book"]) KX G (fun _ _ _ _ _ _ us hl => match us, hl with | [_], _ => rfl) ?a78 ?l78 ?c78 ?k78) ?next78; (case a78 => k_is); (case l78 => k_is); (case c78 => k_is); (case k78 => k_is); intro d_always_alike
    refine' SR.andThen (SR.defk (x := "always_against") (qual := "always_against") (st := SR.topS 39) (ps := ["book"]) KX G (fun _ _ _ _ _ _ us hl => match us, hl with | [_], _ => rfl) ?a79 ?l79 ?c79 ?k79) ?next79; (case a79 => k_is); (case l79 => k_is); (case c79 => k_is); (case k79 => k_is); intro d_always_against
    refine' SR.andThen (SR.defk (x := "sure") (qual := "sure") (st := SR.topS 40) (ps := ["book", "number"]) KX G (fun _ _ _ _ _ _ us hl => match us, hl with | [_, _], _ => rfl) ?a80 ?l80 ?c80 ?k80) ?next80; (case a80 => k_is); (case l80 => k_is); (case c80 => k_is); (case k80 => k_is); intro d_sure
    refine' SR.andThen (SR.defk (x := "led") (qual := "led") (st := SR.topS 42) (ps := ["saying", "names"]) KX G (fun _ _ _ _ _ _ us hl => match us, hl with | [_, _], _ => rfl) ?a81 ?l81 ?c81 ?k81) ?next81; (case a81 => k_is); (case l81 => k_is); (case c81 => k_is); (case k81 => k_is); intro d_led
    refine' SR.andThen (SR.defk (x := "renumbered") (qual := "renumbered") (st := SR.topS 43) (ps := ["book", "order"]) KX G (fun _ _ _ _ _ _ us hl => match us, hl with | [_, _], _ => rfl) ?a82 ?l82 ?c82 ?k82) ?next82; (case a82 => k_is); (case l82 => k_is); (case c82 => k_is); (case k82 => k_is); intro d_renumbered
    refine' SR.andThen (SR.defk (x := "side_by_side") (qual := "side_by_side") (st := SR.topS 44) (ps := ["one", "other"]) KX G (fun _ _ _ _ _ _ us hl => match us, hl with | [_, _], _ => rfl) ?a83 ?l83 ?c83 ?k83) ?next83; (case a83 => k_is); (case l83 => k_is); (case c83 => k_is); (case k83 => k_is); intro d_side_by_side
    refine' SR.andThen (SR.defk (x := "about") (qual := "about") (st := SR.topS 45) (ps := ["saying"]) KX G (fun _ _ _ _ _ _ us hl => match us, hl with | [_], _ => rfl) ?a84 ?l84 ?c84 ?k84) ?next84; (case a84 => k_is); (case l84 => k_is); (case c84 => k_is); (case k84 => k_is); intro d_about
    refine' SR.andThen (SR.defk (x := "turned_about") (qual := "turned_about") (st := SR.topS 46) (ps := ["book"]) KX G (fun _ _ _ _ _ _ us hl => match us, hl with | [_], _ => rfl) ?a85 ?l85 ?c85 ?k85) ?next85; (case a85 => k_is); (case l85 => k_is); (case c85 => k_is); (case k85 => k_is); intro d_turned_about
    refine' SR.andThen (SR.defk (x := "put") (qual := "put") (st := SR.topS 47) (ps := ["book", "number", "saying"]) KX G (fun _ _ _ _ _ _ us hl => match us, hl with | [_, _, _], _ => rfl) ?a86 ?l86 ?c86 ?k86) ?next86; (case a86 => k_is); (case l86 => k_is); (case c86 => k_is); (case k86 => k_is); intro d_put
    refine' SR.andThen (SR.defk (x := "course_of") (qual := "course_of") (st := SR.topS 49) (ps := ["book", "telling"]) KX G (fun _ _ _ _ _ _ us hl => match us, hl with | [_, _], _ => rfl) ?a87 ?l87 ?c87 ?k87) ?next87; (case a87 => k_is); (case l87 => k_is); (case c87 => k_is); (case k87 => k_is); intro d_course_of
    refine' SR.andThen (SR.defk (x := "course") (qual := "course") (st := SR.topS 50) (ps := ["book", "telling"]) KX G (fun _ _ _ _ _ _ us hl => match us, hl with | [_, _], _ => rfl) ?a88 ?l88 ?c88 ?k88) ?next88; (case a88 => k_is); (case l88 => k_is); (case c88 => k_is); (case k88 => k_is); intro d_course
    refine' SR.andThen (SR.defk (x := "all_tellings") (qual := "all_tellings") (st := SR.topS 51) (ps := ["many"]) KX G (fun _ _ _ _ _ _ us hl => match us, hl with | [_], _ => rfl) ?a89 ?l89 ?c89 ?k89) ?next89; (case a89 => k_is); (case l89 => k_is); (case c89 => k_is); (case k89 => k_is); intro d_all_tellings
    refine' SR.andThen (SR.defk (x := "basins") (qual := "basins") (st := SR.topS 52) (ps := ["book"]) KX G (fun _ _ _ _ _ _ us hl => match us, hl with | [_], _ => rfl) ?a90 ?l90 ?c90 ?k90) ?next90; (case a90 => k_is); (case l90 => k_is); (case c90 => k_is); (case k90 => k_is); intro d_basins
    refine' SR.andThen (SR.defk (x := "longest_way") (qual := "longest_way") (st := SR.topS 53) (ps := ["book"]) KX G (fun _ _ _ _ _ _ us hl => match us, hl with | [_], _ => rfl) ?a91 ?l91 ?c91 ?k91) ?next91; (case a91 => k_is); (case l91 => k_is); (case c91 => k_is); (case k91 => k_is); intro d_longest_way
    refine' SR.andThen (SR.defk (x := "_law_cell") (qual := "_law_cell") (st := SR.topS 57) (ps := ["_law_script", "_law_k"]) KX G (fun _ _ _ _ _ _ us hl => match us, hl with | [_, _], _ => rfl) ?a92 ?l92 ?c92 ?k92) ?next92; (case a92 => k_is); (case l92 => k_is); (case c92 => k_is); (case k92 => k_is); intro d__law_cell
    refine' SR.andThen (SR.defk (x := "_law_seed") (qual := "_law_seed") (st := SR.topS 58) (ps := ["_law_seed_here", "_law_k"]) KX G (fun _ _ _ _ _ _ us hl => match us, hl with | [_, _], _ => rfl) ?a93 ?l93 ?c93 ?k93) ?next93; (case a93 => k_is); (case l93 => k_is); (case c93 => k_is); (case k93 => k_is); intro d__law_seed
    refine' SR.andThen (SR.defk (x := "_law_pick") (qual := "_law_pick") (st := SR.topS 59) (ps := ["_law_seed_here", "_law_many"]) KX G (fun _ _ _ _ _ _ us hl => match us, hl with | [_, _], _ => rfl) ?a94 ?l94 ?c94 ?k94) ?next94; (case a94 => k_is); (case l94 => k_is); (case c94 => k_is); (case k94 => k_is); intro d__law_pick
    refine' SR.andThen (SR.defk (x := "_law_saying") (qual := "_law_saying") (st := SR.topS 60) (ps := ["_law_seed_here", "_law_many", "_law_deep"]) KX G (fun _ _ _ _ _ _ us hl => match us, hl with | [_, _, _], _ => rfl) ?a95 ?l95 ?c95 ?k95) ?next95; (case a95 => k_is); (case l95 => k_is); (case c95 => k_is); (case k95 => k_is); intro d__law_saying
    refine' SR.andThen (SR.defk (x := "_law_book") (qual := "_law_book") (st := SR.topS 61) (ps := ["_law_script", "_law_at"]) KX G (fun _ _ _ _ _ _ us hl => match us, hl with | [_, _], _ => rfl) ?a96 ?l96 ?c96 ?k96) ?next96; (case a96 => k_is); (case l96 => k_is); (case c96 => k_is); (case k96 => k_is); intro d__law_book
    refine' SR.andThen (SR.defk (x := "_law_counted") (qual := "_law_counted") (st := SR.topS 62) (ps := ["_law_low", "_law_high", "_law_signs_here"]) KX G (fun _ _ _ _ _ _ us hl => match us, hl with | [_, _, _], _ => rfl) ?a97 ?l97 ?c97 ?k97) ?next97; (case a97 => k_is); (case l97 => k_is); (case c97 => k_is); (case k97 => k_is); intro d__law_counted
    refine' SR.andThen (SR.defk (x := "_law_worth") (qual := "_law_worth") (st := SR.topS 63) (ps := ["_law_telling", "_law_saying_here"]) KX G (fun _ _ _ _ _ _ us hl => match us, hl with | [_, _], _ => rfl) ?a98 ?l98 ?c98 ?k98) ?next98; (case a98 => k_is); (case l98 => k_is); (case c98 => k_is); (case k98 => k_is); intro d__law_worth
    refine' SR.andThen (SR.defk (x := "_law_next") (qual := "_law_next") (st := SR.topS 64) (ps := ["_law_book_here", "_law_telling"]) KX G (fun _ _ _ _ _ _ us hl => match us, hl with | [_, _], _ => rfl) ?a99 ?l99 ?c99 ?k99) ?next99; (case a99 => k_is); (case l99 => k_is); (case c99 => k_is); (case k99 => k_is); intro d__law_next
    refine' SR.andThen (SR.defk (x := "_law_back") (qual := "_law_back") (st := SR.topS 66) (ps := ["_law_saying_here", "_law_many"]) KX G (fun _ _ _ _ _ _ us hl => match us, hl with | [_, _], _ => rfl) ?a100 ?l100 ?c100 ?k100) ?next100; (case a100 => k_is); (case l100 => k_is); (case c100 => k_is); (case k100 => k_is); intro d__law_back
    refine' SR.andThen (SR.defk (x := "_law_cut") (qual := "_law_cut") (st := SR.topS 65) (ps := ["_law_book_here", "_law_many"]) KX G (fun _ _ _ _ _ _ us hl => match us, hl with | [_, _], _ => rfl) ?a101 ?l101 ?c101 ?k101) ?next101; (case a101 => k_is); (case l101 => k_is); (case c101 => k_is); (case k101 => k_is); intro d__law_cut
    refine' SR.andThen (SR.defk (x := "_law_grounded") (qual := "_law_grounded") (st := SR.topS 67) (ps := ["_law_book_here", "_law_known_here"]) KX G (fun _ _ _ _ _ _ us hl => match us, hl with | [_, _], _ => rfl) ?a102 ?l102 ?c102 ?k102) ?next102; (case a102 => k_is); (case l102 => k_is); (case c102 => k_is); (case k102 => k_is); intro d__law_grounded
    refine' SR.andThen (SR.defk (x := "_law_all_known") (qual := "_law_all_known") (st := SR.topS 68) (ps := ["_law_many"]) KX G (fun _ _ _ _ _ _ us hl => match us, hl with | [_], _ => rfl) ?a103 ?l103 ?c103 ?k103) ?next103; (case a103 => k_is); (case l103 => k_is); (case c103 => k_is); (case k103 => k_is); intro d__law_all_known
    refine' SR.andThen (SR.defk (x := "_law_known") (qual := "_law_known") (st := SR.topS 69) (ps := ["_law_seed_here", "_law_many"]) KX G (fun _ _ _ _ _ _ us hl => match us, hl with | [_, _], _ => rfl) ?a104 ?l104 ?c104 ?k104) ?next104; (case a104 => k_is); (case l104 => k_is); (case c104 => k_is); (case k104 => k_is); intro d__law_known
    refine' SR.andThen (SR.defk (x := "_law_told_of") (qual := "_law_told_of") (st := SR.topS 70) (ps := ["_law_way", "_law_book_here", "_law_thing"]) KX G (fun _ _ _ _ _ _ us hl => match us, hl with | [_, _, _], _ => rfl) ?a105 ?l105 ?c105 ?k105) ?next105; (case a105 => k_is); (case l105 => k_is); (case c105 => k_is); (case k105 => k_is); intro d__law_told_of
    refine' SR.andThen (SR.defk (x := "_law_told_word") (qual := "_law_told_word") (st := SR.topS 71) (ps := ["_law_way", "_law_book_here", "_law_thing"]) KX G (fun _ _ _ _ _ _ us hl => match us, hl with | [_, _, _], _ => rfl) ?a106 ?l106 ?c106 ?k106) ?next106; (case a106 => k_is); (case l106 => k_is); (case c106 => k_is); (case k106 => k_is); intro d__law_told_word
    refine' SR.andThen (SR.defk (x := "law") (qual := "law") (st := SR.topS 72) (ps := ["_law_script"]) KX G (fun _ _ _ _ _ _ us hl => match us, hl with | [_], _ => rfl) ?a107 ?l107 ?c107 ?k107) ?next107; (case a107 => k_is); (case l107 => k_is); (case c107 => k_is); (case k107 => k_is); intro d_law
    exact ⟨(fun c => match c with | .sayError => _ | .badBook => _ | .badTelling => _ | .badSaying => _ | .badOrder => _ | .tooDeep => _ | _ => 0), fun base KB GB => SR.F_law ⟨m_bool, m_dict, m_enumerate, m_int, m_isinstance, m_len, m_list, m_max, m_min, m_range, m_set, m_sorted, m_str, m_tuple, m_zip, g_MOST_SAYINGS, g_MOST_DEEP, g_WORTHS, k_SIZES, k_SAYINGS, e_SayError, e_BadBook, e_BadTelling, e_BadSaying, e_BadOrder, e_TooDeep, x_SayError_BadBook, x_BadBook_BadBook, x_BadTelling_BadBook, x_BadSaying_BadBook, x_BadOrder_BadBook, x_TooDeep_BadBook, x_SayError_BadOrder, x_BadBook_BadOrder, x_BadTelling_BadOrder, x_BadSaying_BadOrder, x_BadOrder_BadOrder, x_TooDeep_BadOrder, x_SayError_BadSaying, x_BadBook_BadSaying, x_BadTelling_BadSaying, x_BadSaying_BadSaying, x_BadOrder_BadSaying, x_TooDeep_BadSaying, x_SayError_BadTelling, x_BadBook_BadTelling, x_BadTelling_BadTelling, x_BadSaying_BadTelling, x_BadOrder_BadTelling, x_TooDeep_BadTelling, x_SayError_TooDeep, x_BadBook_TooDeep, x_BadTelling_TooDeep, x_BadSaying_TooDeep, x_BadOrder_TooDeep, x_TooDeep_TooDeep, d__wall, d_is_within, d_is_row, d_is_saying, d_is_book, d_look, d_is_telling, d_look_telling, d_look_number, d_turned, d_of_many, d_worth_of, d_next_of, d_rounds_from, d_could_be, d_all_of, d_look_known, d_with_known, d_grounded_of, d_grounded_by, d_all_known, d_fewest_known, d_always_alike, d_always_against, d_sure, d_led, d_renumbered, d_side_by_side, d_about, d_turned_about, d_put, d_course_of, d_course, d_all_tellings, d_basins, d_longest_way, d__law_cell, d__law_seed, d__law_pick, d__law_saying, d__law_book, d__law_counted, d__law_worth, d__law_next, d__law_back, d__law_cut, d__law_grounded, d__law_all_known, d__law_known, d__law_told_of, d__law_told_word, d_law⟩⟩
