import PyProof.Rows.All
import Wide.All
import OpenK.AllK
import Wide.FinOn
import HandS.ForMost
import HandS.IsInst
import HandS.TupAny
import HandS.TupLe
import HandS.Deep
import HandS.Defaults
import HandS.Walk
import KE.SortData
import KE.KTupSum
import HandS.Flow
import HandS.WordsDict
import HandS.DeepEq
import KE.DataCmp
import HandS.More
import HandS.SortInts
import HandS.Zip
import HandS.Style
import HandS.Small
import HandS.Ends
import HandS.HeadEnd
import KE.GoesMore
import KE.DataMinMax
import PyProof.P3Eq
import PyProof.ReprLen
import PyProof.ReprRoads
import HandS.Star
import HandS.Iter
import HandS.Conv
import HandS.Dict
import HandS.Head0
import HandS.Head1
import HandS.Head2
import HandS.HeadHook1
import HandS.HeadHook2
import HandS.HeadHook4
import PyProof.ReprReads
import PySem.Challenge.RW_sumsround_k58_whole_main_hulls_and_fewes
set_option Elab.async false
set_option linter.all false
set_option maxRecDepth 100000
set_option maxHeartbeats 4000000
namespace TM
open PySem

/-- values as trees; tok 0 is the script's own list, tok 1 the stream -/
inductive T where
  | non | bl (b : Bool) | int (i : Int) | str (s : Str) | tok (n : Nat)
  | lst (xs : List T) | tup (xs : List T) | dct (ks vs : List T)

inductive R (α : Type) where
  | ok (a : α) | draw (n : Nat) (k : Nat → R α) | exc (c : Nat) (v : T) | stuck

def R.bind {α β : Type} : R α → (α → R β) → R β
  | .ok a, f => f a
  | .draw n k, f => .draw n fun i => (k i).bind f
  | .exc c v, _ => .exc c v
  | .stuck, _ => .stuck
instance : Monad R where
  pure := R.ok
  bind := R.bind

/-- no error may leave -/
def R.noexc {α : Type} : R α → R α
  | .ok a => .ok a
  | .draw n k => .draw n fun i => (k i).noexc
  | .exc _ _ => .stuck
  | .stuck => .stuck

/-- every way out: a value with P, an error with E -/
def R.All {α : Type} (P : α → Prop) (E : Nat → T → Prop) : R α → Prop
  | .ok a => P a
  | .draw n k => 0 < n ∧ ∀ i, i < n → (k i).All P E
  | .exc c v => E c v
  | .stuck => False

structure Val where
  t : T
  lv : Nat

mutual
def T.nomut : T → Bool
  | .lst _ => false
  | .dct _ _ => false
  | .tup xs => nomuts xs
  | _ => true
def nomuts : List T → Bool
  | [] => true
  | x :: xs => x.nomut && nomuts xs
end
/-- read as it stands: shared unless nothing in it can change -/
def T.rd (t : T) : Val := ⟨t, if t.nomut then 2 else 0⟩
def lvl (xs : List T) : Nat := if nomuts xs then 2 else 1
def lvt (xs : List T) : Nat := if nomuts xs then 2 else 0
def all2 (vs : List Val) : Bool := vs.all fun v => Nat.beq v.lv 2
def all3 (vs : List Val) : Bool := vs.all fun v => Nat.beq v.lv 2 || Nat.beq v.lv 3
def mk2 (t : T) : R Val := .ok ⟨t, 2⟩
def ts (vs : List Val) : List T := vs.map (·.t)
def LINE : Nat := 16777216

/-! ### equality, order -/
mutual
def T.isdat : T → Bool
  | .tok _ => false
  | .dct _ _ => false
  | .str s => s.cps.all (· < 0x110000)
  | .lst xs => isdats xs
  | .tup xs => isdats xs
  | _ => true
def isdats : List T → Bool
  | [] => true
  | x :: xs => x.isdat && isdats xs
end
def b2i (b : Bool) : Int := if b then 1 else 0
def strB (a b : Str) : Bool := decide (a = b)
mutual
def T.eqB : T → T → Bool
  | .non, .non => true
  | .bl a, .bl b => a == b
  | .bl a, .int j => b2i a == j
  | .int i, .bl b => i == b2i b
  | .int i, .int j => i == j
  | .str x, .str y => strB x y
  | .lst xs, .lst ys => eqBs xs ys
  | .tup xs, .tup ys => eqBs xs ys
  | _, _ => false
def eqBs : List T → List T → Bool
  | [], [] => true
  | x :: xs, y :: ys => x.eqB y && eqBs xs ys
  | _, _ => false
end
mutual
def T.depth : T → Nat
  | .lst xs => depths xs + 1
  | .tup xs => depths xs + 1
  | .dct _ vs => depths vs + 1
  | _ => 0
def depths : List T → Nat
  | [] => 0
  | x :: xs => max x.depth (depths xs)
end
/-- data that == takes -/
def T.eqok (t : T) : Bool := t.isdat && Nat.ble t.depth 60
def eqT (a b : T) : R Bool := if a.eqok && b.eqok then .ok (a.eqB b) else .stuck

def truthy : T → R Bool
  | .non => .ok false
  | .bl b => .ok b
  | .int i => .ok (i != 0)
  | .lst xs => .ok !xs.isEmpty
  | .tup xs => .ok !xs.isEmpty
  | _ => .stuck

/-! ### operators -/
inductive BOp | add | sub | mul | fdiv | mod | pow
inductive COp | eq | ne | lt | le | gt | ge | is | nis | isin | nisin
inductive Ty | int | bool | str | list | tuple | dict

def binT : BOp → T → T → R Val
  | .add, .int i, .int j => mk2 (.int (i + j))
  | .add, .lst xs, .lst ys => if xs.length + ys.length ≤ LINE then .ok ⟨.lst (xs ++ ys), lvl (xs ++ ys)⟩ else .stuck
  | .add, .tup xs, .tup ys => if xs.length + ys.length ≤ LINE then .ok (T.tup (xs ++ ys)).rd else .stuck
  | .sub, .int i, .int j => mk2 (.int (i - j))
  | .mul, .int i, .int j => if (i.natAbs < 2 ^ 64) || (j.natAbs < 2 ^ 64) then mk2 (.int (i * j)) else .stuck
  | .mul, .lst xs, .int j => if j.natAbs < 2 ^ 60 && xs.length * j.toNat ≤ LINE then .ok ⟨.lst (List.replicate j.toNat xs).flatten, lvl xs⟩ else .stuck
  | .fdiv, .int i, .int j => if 0 < j ∧ j < 1073741824 then mk2 (.int (i / j)) else .stuck
  | .mod, .int i, .int j => if 0 < j then mk2 (.int (i % j)) else .stuck
  | .pow, .int i, .int j => if 0 ≤ j ∧ j ≤ 1000000 ∧ i.natAbs < 2 ^ 64 then mk2 (.int (i ^ j.toNat)) else .stuck
  | _, _, _ => .stuck

def inB (x : T) : List T → Bool
  | [] => false
  | y :: ys => y.eqB x || inB x ys

def flatT : T → Bool
  | .int _ => true
  | .str _ => true
  | _ => false

def T.isN : T → Bool
  | .non => true
  | _ => false
mutual
/-- the two can be ordered -/
def T.alike : T → T → Bool
  | .int _, .int _ => true
  | .str _, .str _ => true
  | .lst xs, .lst ys => alikes xs ys
  | .tup xs, .tup ys => alikes xs ys
  | _, _ => false
def alikes : List T → List T → Bool
  | x :: xs, y :: ys => x.alike y && alikes xs ys
  | [], _ => true
  | _ :: _, [] => true
end
mutual
def T.toD : T → PyData
  | .non => .none
  | .bl b => .bool b
  | .int i => .int i
  | .str s => .str s
  | .tok _ => .none
  | .lst xs => .list (toDs xs)
  | .tup xs => .tuple (toDs xs)
  | .dct _ _ => .none
def toDs : List T → List PyData
  | [] => []
  | x :: xs => x.toD :: toDs xs
end
/-- Python's order of data that can be compared -/
def ltok (a b : T) : Bool := a.eqok && (b.eqok && a.alike b)
def ltT (a b : T) : Bool := PySem.W.dataLt a.toD b.toD
def cmpT : COp → T → T → R Bool
  | .eq, a, b => eqT a b
  | .ne, a, b => do let r ← eqT a b; .ok !r
  | .lt, .int i, .int j => .ok (decide (i < j))
  | .le, .int i, .int j => .ok (decide (i ≤ j))
  | .gt, .int i, .int j => .ok (decide (j < i))
  | .ge, .int i, .int j => .ok (decide (j ≤ i))
  | .lt, .lst xs, .lst ys => if ltok (.lst xs) (.lst ys) then .ok (ltT (.lst xs) (.lst ys)) else .stuck
  | .lt, .tup xs, .tup ys => if ltok (.tup xs) (.tup ys) then .ok (ltT (.tup xs) (.tup ys)) else .stuck
  | .gt, .lst xs, .lst ys => if ltok (.lst xs) (.lst ys) then .ok (ltT (.lst ys) (.lst xs)) else .stuck
  | .gt, .tup xs, .tup ys => if ltok (.tup xs) (.tup ys) then .ok (ltT (.tup ys) (.tup xs)) else .stuck
  | .is, a, .non => .ok a.isN
  | .nis, a, .non => .ok !a.isN
  | .isin, x, .lst ys => if x.eqok && (T.lst ys).eqok then .ok (inB x ys) else .stuck
  | .nisin, x, .lst ys => if x.eqok && (T.lst ys).eqok then .ok !(inB x ys) else .stuck
  | .isin, x, .tup ys => if x.eqok && (T.tup ys).eqok then .ok (inB x ys) else .stuck
  | .nisin, x, .tup ys => if x.eqok && (T.tup ys).eqok then .ok !(inB x ys) else .stuck
  | .isin, x, .dct ks _ => if flatT x && ks.all flatT then .ok (inB x ks) else .stuck
  | .nisin, x, .dct ks _ => if flatT x && ks.all flatT then .ok !(inB x ks) else .stuck
  | _, _, _ => .stuck

def isTy : T → Ty → R Bool
  | .tok _, _ => .stuck
  | .int _, .int => .ok true
  | .bl _, .int => .ok true
  | .bl _, .bool => .ok true
  | .str _, .str => .ok true
  | .lst _, .list => .ok true
  | .tup _, .tuple => .ok true
  | .dct _ _, .dict => .ok true
  | _, _ => .ok false
def isTys (t : T) : List Ty → R Bool
  | [] => .ok false
  | c :: cs => do
    let b ← isTy t c
    let d ← isTys t cs
    .ok (b || d)

def seqOf : T → R (List T)
  | .lst xs => .ok xs
  | .tup xs => .ok xs
  | _ => .stuck

def intsR : List T → R (List Int)
  | [] => .ok []
  | .int i :: r => do let js ← intsR r; .ok (i :: js)
  | _ :: _ => .stuck
def boolsR : List T → R (List Bool)
  | [] => .ok []
  | .bl i :: r => do let js ← boolsR r; .ok (i :: js)
  | _ :: _ => .stuck

/-- xs[lo:hi], the bounds as Python clips them -/
def cut (xs : List T) (lo hi : Option Int) : List T := (xs.drop (HT.sIx xs.length 0 lo)).take (HT.sIx xs.length xs.length hi - HT.sIx xs.length 0 lo)
def getAt (xs : List T) (i : Int) : R T :=
  match L2.atI xs i with
  | some x => .ok x
  | none => .stuck

def lookT (k : T) : List T → List T → Option T
  | q :: qs, v :: vs => if q.eqB k then some v else lookT k qs vs
  | _, _ => none

/-- d[k] = v on the pairs -/
def replT (k v : T) : List T → List T → List T
  | q :: qs, w :: ws => (if q.eqB k then v else w) :: replT k v qs ws
  | _, ws => ws
def putT (k v : T) (qs ws : List T) : List T × List T := if qs.any (fun q => q.eqB k) then (qs, replT k v qs ws) else (qs ++ [k], ws ++ [v])

inductive BI | len | list | tuple | int | abs | sum | min | max | all | any | sorted | repr | dict | str
  | dget | index | count | mind
  deriving DecidableEq

/-! ### order of data: by kinds alone -/
mutual
/-- x < y -/
def T.ltB : T → T → Bool
  | .int i, .int j => decide (i < j)
  | .str x, .str y => decide (x.cps.toList < y.cps.toList)
  | .lst xs, .lst ys => ltBs xs ys
  | .tup xs, .tup ys => ltBs xs ys
  | _, _ => false
def ltBs : List T → List T → Bool
  | _, [] => false
  | [], _ :: _ => true
  | x :: xs, y :: ys => if x.eqB y then ltBs xs ys else x.ltB y
end
def isTupNe : T → Bool
  | .tup (_ :: _) => true
  | _ => false
def isTupA : T → Bool
  | .tup _ => true
  | .non => true
  | .tok _ => true
  | .dct _ _ => true
  | _ => false
/-- all are tuples with something in them, or none is a tuple -/
def sortableT (xs : List T) : Bool := xs.all isTupNe || xs.all fun x => !isTupA x
def allAlike (xs : List T) : Bool := xs.all fun x => xs.all fun y => x.alike y
def isTup : T → Bool
  | .tup _ => true
  | _ => false
/-- min of tuples of data: the first of the least -/
def minT (x : T) (xs : List T) : T := xs.foldl (fun a y => if ltT y a then y else a) x
def okMin (us : List T) : Bool := isdats us && (allAlike us && (us.all isTup && Nat.ble (depths us) 60))

mutual
/-- its ints are below 10^12 -/
def T.smallI : T → Bool
  | .int i => Nat.blt i.natAbs 1000000000000
  | .lst xs => smallIs xs
  | .tup xs => smallIs xs
  | _ => true
def smallIs : List T → Bool
  | [] => true
  | x :: xs => x.smallI && smallIs xs
end
mutual
def T.wt : T → Nat
  | .int _ => 41
  | .str s => s.cps.size
  | .lst xs => wts xs
  | .tup xs => wts xs
  | _ => 0
def wts : List T → Nat
  | [] => 0
  | x :: xs => x.wt + 1 + wts xs
end
mutual
/-- may be spoilt -/
def T.spo : T → Bool
  | .tok _ => false
  | .dct _ _ => false
  | .lst xs => Nat.blt xs.length LINE && spos xs
  | .tup xs => spos xs
  | _ => true
def spos : List T → Bool
  | [] => true
  | x :: xs => x.spo && spos xs
end
mutual
/-- how often a list is met in it -/
def T.met : T → Nat
  | .lst xs => mets xs + 1
  | .tup xs => mets xs
  | _ => 0
def mets : List T → Nat
  | [] => 0
  | x :: xs => x.met + mets xs
end
mutual
/-- lists, tuples and plain things; its lists no longer than n -/
def T.fits (n : Nat) : T → Bool
  | .tok _ => false
  | .dct _ _ => false
  | .lst xs => Nat.ble xs.length n && fitss n xs
  | .tup xs => fitss n xs
  | _ => true
def fitss (n : Nat) : List T → Bool
  | [] => true
  | x :: xs => x.fits n && fitss n xs
end
/-- may be spoilt, whatever of it is one thing -/
def T.spo3 (t : T) : Bool := t.fits 10000000 && Nat.ble t.met 5000000
def isDsp : T → Bool
  | .lst _ => true
  | .tup _ => true
  | _ => false
/-- repr of it is known to fit -/
def T.okrepr (t : T) : Bool := t.isdat && (isDsp t && (t.smallI && (Nat.ble t.depth 60 && Nat.ble t.wt 1048576)))

/-! ### the text -/
/-- a target: a name, names of a tuple -/
inductive Tg | nm (i : Nat) | tp (is : List Nat)

mutual
inductive E where
  | var (i : Nat) | cst (t : T)
  | bin (o : BOp) (a b : E) | neg (a : E) | not (a : E)
  | and (a b : E) | or (a b : E)
  | cmp (o : COp) (a b : E) | chain (o o' : COp) (a b c : E)
  | ite (c a b : E)
  | lst (es : Es) | tup (es : Es) | dsp (ks vs : Es)
  | idx (a i : E) | slc (a : E) (lo hi : OE) | rev (a : E)
  | isi (a : E) (cs : List Ty)
  | call (f : Nat) (es : Es)
  /-- with keywords: the places among all that is written, in the parameters' order -/
  | callk (f : Nat) (pm : List Nat) (es ks : Es)
  | bi (b : BI) (es : Es)
  /-- list(range(..)) -/
  | lr1 (a : E) | lr2 (a b : E)
  /-- a display with parts that are laid out -/
  | lstS (es : Es)
  /-- of what can't change alone: all of it that can change is new -/
  | fresh (e : E)
  | lc (elt : E) (tg : Tg) (it : It) (cs : Es) (own : List Nat)
  | lc2 (elt : E) (tg : Tg) (it : It) (cs : Es) (tg1 : Tg) (it1 : It) (cs1 : Es) (own own1 : List Nat)
  /-- never reached -/
  | bad
inductive OE where
  | no | yes (e : E)
inductive Es where
  | nil | cons (e : E) (es : Es) | star (e : E) (es : Es)
inductive It where
  | seq (e : E) | rng1 (a : E) | rng2 (a b : E) | rng3 (a b : E) (c : Int) | rngS (a b c : E)
  | enum (a : E) | zip (a b : E) | items (a : E) | bad
end

mutual
inductive S where
  | asg (tg : Tg) (e : E) (fz : List Nat)
  | par (tgs : List Nat) (es : Es) (fz : List Nat)
  | mov (i j : Nat)
  | sto (i : Nat) (k e : E) (fz : List Nat)
  /-- x[k] = e of a dict -/
  | stod (i : Nat) (k e : E) (fz : List Nat)
  | app (i : Nat) (e : E) (fz : List Nat)
  | ext (i : Nat) (e : E) (fz : List Nat)
  | exp (e : E)
  | ret (e : E) | retv (i : Nat) | retn
  | iff (c : E) (a b : Ss)
  | for (tg : Tg) (it : It) (b : Ss) (fz : List Nat)
  /-- over one of two things -/
  | fori (tg : Tg) (c a b : E) (bd : Ss) (fz : List Nat)
  /-- over a range -/
  | forr (tg : Tg) (it : It) (b : Ss)
  | whl (n : Nat) (c : E) (b : Ss)
  | rse (c : Nat) (e : E)
  | spoil (i : Nat)
  /-- a thing of names mv is spoilt -/
  | spoilx (mv : List Nat) (e : E)
  /-- x.append(y.pop(e)) -/
  | apop (i j : Nat) (e : E) (fz : List Nat)
  /-- x = y.pop() -/
  | popv (tg : Tg) (j : Nat)
  | pass | brk
  | bad
inductive Ss where
  | nil | cons (s : S) (ss : Ss)
  /-- from here on these are not known -/
  | kill (is : List Nat) (ss : Ss)
end

/-- a display's keys: numbers -/
def keysOf : Es → Option (List Int)
  | .nil => some []
  | .cons (.cst (.int i)) es => (keysOf es).map (i :: ·)
  | _ => none
abbrev Env := List (Option Val)
inductive Out where
  | nx (τ : Env) | rt (v : Val) | bk (τ : Env)

/-! ### what it does -/
def wipes : List Nat → Env → Env
  | [], τ => τ
  | i :: is, τ => (wipes is τ).set i none
def setAll : List Nat → List T → Nat → Env → R Env
  | [], [], _, τ => .ok τ
  | i :: is, t :: ts, l, τ => setAll is ts l (τ.set i (some ⟨t, if t.nomut then 2 else l⟩))
  | _, _, _, _ => .stuck
def setTg (tg : Tg) (v : Val) (τ : Env) : R Env :=
  match tg with
  | .nm i => .ok (τ.set i (some v))
  | .tp is => match v.t with
    | .tup xs => setAll is xs (if v.lv = 2 then 2 else 0) τ
    | _ => .stuck
def frz1 (i : Nat) (τ : Env) : Env := match τ[i]? with
  | some (some v) => τ.set i (some v.t.rd)
  | _ => τ
def frz : List Nat → Env → Env
  | [], τ => τ
  | i :: is, τ => frz1 i (frz is τ)
def hideFrom (fz : List Nat) : Nat → Env → Env
  | _, [] => []
  | i, o :: τ => (match o with
    | some v => if Nat.beq v.lv 0 || (v.t.nomut || fz.elem i) then some v else none
    | none => none) :: hideFrom fz (i + 1) τ
/-- what is owned is out of sight but for the names fz -/
def hide (fz : List Nat) (τ : Env) : Env := hideFrom fz 0 τ
def after (fz : List Nat) (v : Val) (τ : Env) : Env := if v.lv = 2 then τ else if v.lv = 3 then τ else frz fz τ
/-- what can't change alone -/
def hideM (τ : Env) : Env := τ.map fun o => match o with
  | some v => if v.t.nomut then some v else none
  | none => none
/-- .. and what the names mv own -/
def hideXF (mv : List Nat) : Nat → Env → Env
  | _, [] => []
  | i, o :: τ => (match o with
    | some v => if v.t.nomut || (mv.elem i && Nat.ble 2 v.lv) then some v else none
    | none => none) :: hideXF mv (i + 1) τ
def hideX (mv : List Nat) (τ : Env) : Env := hideXF mv 0 τ
/-- all of it is new -/
def up (v : Val) : Val := ⟨v.t, if v.lv = 2 then 2 else if v.t.nomut then 2 else 3⟩
/-- an index, from behind too -/
def ixZ (n : Nat) (i : Int) : Int := if i < 0 then i + n else i
def lim : Nat → Nat → Nat
  | 0, n => n
  | 1, n => n
  | _ + 2, _ => 0

def enumT : Nat → List T → List T
  | _, [] => []
  | i, x :: xs => .tup [.int i, x] :: enumT (i + 1) xs
def zipT : List T → List T → List T
  | x :: xs, y :: ys => .tup [x, y] :: zipT xs ys
  | _, _ => []
def rngT (lo : Int) : Nat → List T
  | 0 => []
  | n + 1 => .int lo :: rngT (lo + 1) n
def rngC (lo c : Int) : Nat → List T
  | 0 => []
  | n + 1 => .int lo :: rngC (lo + c) c n
def rngLen (a b c : Int) : Nat := if 0 < c then ((b - a + c - 1) / c).toNat else ((a - b - c - 1) / (-c)).toNat

/-- Python's order of data -/
def leT (a b : T) : Bool := PySem.W.dataLe false T.toD a b
def mergeF : Nat → List T → List T → List T
  | 0, xs, ys => xs ++ ys
  | n + 1, xs, ys => match xs, ys with
    | [], ys => ys
    | xs, [] => xs
    | x :: xs, y :: ys => match leT x y with
      | true => x :: mergeF n xs (y :: ys)
      | false => y :: mergeF n (x :: xs) ys
def sortF : Nat → List T → List T
  | 0, xs => xs
  | n + 1, xs => match xs with
    | [] => []
    | [x] => [x]
    | x :: y :: xs => mergeF (xs.length + 2) (sortF n ((x :: y :: xs).take ((xs.length + 2 + 1) / 2))) (sortF n ((x :: y :: xs).drop ((xs.length + 2 + 1) / 2)))
/-- the sort by merging, by steps that can be counted -/
def sortT (xs : List T) : List T := sortF xs.length xs
theorem mergeF_eq : ∀ (n : Nat) (xs ys : List T), xs.length + ys.length ≤ n → mergeF n xs ys = List.merge xs ys leT
  | 0, xs, ys, h => by
    obtain rfl : xs = [] := List.length_eq_zero_iff.1 (by omega)
    rw [List.nil_merge]; rfl
  | n + 1, [], ys, h => by rw [List.nil_merge]; unfold mergeF; rfl
  | n + 1, x :: xs, [], h => by rw [List.merge_right]; unfold mergeF; rfl
  | n + 1, x :: xs, y :: ys, h => by
    simp only [List.length_cons] at h
    rw [List.merge]
    unfold mergeF
    dsimp only
    cases leT x y
    · rw [if_neg (by decide), ← mergeF_eq n (x :: xs) ys (by simp only [List.length_cons]; omega)]
    · rw [if_pos rfl, ← mergeF_eq n xs (y :: ys) (by simp only [List.length_cons]; omega)]
theorem sortF_eq : ∀ (n : Nat) (xs : List T), xs.length ≤ n → sortF n xs = xs.mergeSort leT
  | 0, xs, h => by
    obtain rfl : xs = [] := List.length_eq_zero_iff.1 (by omega)
    rw [List.mergeSort]; rfl
  | n + 1, [], h => by rw [List.mergeSort]; rfl
  | n + 1, [x], h => by rw [List.mergeSort]; rfl
  | n + 1, x :: y :: xs, h => by
    simp only [List.length_cons] at h
    have e : (x :: y :: xs).mergeSort leT = List.merge (((x :: y :: xs).take ((xs.length + 2 + 1) / 2)).mergeSort leT) (((x :: y :: xs).drop ((xs.length + 2 + 1) / 2)).mergeSort leT) leT := by
      rw [List.mergeSort]
      simp only [List.MergeSort.Internal.splitInTwo, List.splitAt_eq, List.length_cons]
    have hl : ((x :: y :: xs).take ((xs.length + 2 + 1) / 2)).length ≤ n := by rw [List.length_take, List.length_cons, List.length_cons]; omega
    have hr : ((x :: y :: xs).drop ((xs.length + 2 + 1) / 2)).length ≤ n := by rw [List.length_drop, List.length_cons, List.length_cons]; omega
    rw [e]
    unfold sortF
    dsimp only
    rw [sortF_eq n _ hl, sortF_eq n _ hr]
    exact mergeF_eq _ _ _ (by rw [List.length_mergeSort, List.length_mergeSort, List.length_take, List.length_drop, List.length_cons, List.length_cons]; omega)
theorem sortT_eq (xs : List T) : sortT xs = xs.mergeSort leT := sortF_eq _ _ (Nat.le_refl _)
def idxT (x : T) : List T → Nat → R Nat
  | [], _ => .stuck
  | y :: ys, n => if y.eqB x then .ok n else idxT x ys (n + 1)
def cntT (x : T) : List T → Nat
  | [] => 0
  | y :: ys => (if y.eqB x then 1 else 0) + cntT x ys
def pairsT : List T → R (List T × List T)
  | [] => .ok ([], [])
  | .tup [k, v] :: r => do
    let p ← pairsT r
    .ok (k :: p.1, v :: p.2)
  | _ :: _ => .stuck
def mergeT : List T → List T → List T × List T → List T × List T
  | k :: ks, v :: vs, acc => mergeT ks vs (putT k v acc.1 acc.2)
  | _, _, acc => acc

def allTrue : List Bool → Bool
  | [] => true
  | b :: bs => b && allTrue bs
def anyTrue : List Bool → Bool
  | [] => false
  | b :: bs => b || anyTrue bs
def maxI : List Int → Int
  | [] => 0
  | [x] => x
  | x :: xs => if maxI xs < x then x else maxI xs
def minI : List Int → Int
  | [] => 0
  | [x] => x
  | x :: xs => if x < minI xs then x else minI xs
def sumI : List Int → Int
  | [] => 0
  | x :: xs => x + sumI xs

/-- repr's letters are not spelt: any function of the tree that tells trees of data apart by nothing but repr itself -/
def biT (rp : T → Str) : BI → List T → R Val
  | .len, [.lst xs] => mk2 (.int xs.length)
  | .len, [.tup xs] => mk2 (.int xs.length)
  | .len, [.dct ks _] => mk2 (.int ks.length)
  | .list, [.lst xs] => .ok ⟨.lst xs, lvl xs⟩
  | .list, [.tup xs] => .ok ⟨.lst xs, lvl xs⟩
  | .list, [.dct ks _] => .ok ⟨.lst ks, lvl ks⟩
  | .tuple, [.lst xs] => .ok (T.tup xs).rd
  | .tuple, [.tup xs] => .ok (T.tup xs).rd
  | .int, [.int i] => mk2 (.int i)
  | .abs, [.int i] => mk2 (.int (if i < 0 then -i else i))
  | .sum, [.lst xs] => do let ns ← intsR xs; mk2 (.int (sumI ns))
  | .sum, [.tup xs] => do let ns ← intsR xs; mk2 (.int (sumI ns))
  | .min, [.int i, .int j] => mk2 (.int (if j < i then j else i))
  | .max, [.int i, .int j] => mk2 (.int (if j > i then j else i))
  | .min, [.lst xs] => do let ns ← intsR xs; if ns.isEmpty then .stuck else mk2 (.int (minI ns))
  | .mind, [.lst (x :: xs)] => if okMin (x :: xs) then .ok (minT x xs).rd else .stuck
  | .max, [.lst xs] => do let ns ← intsR xs; if ns.isEmpty then .stuck else mk2 (.int (maxI ns))
  | .all, [.lst xs] => do let bs ← boolsR xs; mk2 (.bl (allTrue bs))
  | .any, [.lst xs] => do let bs ← boolsR xs; mk2 (.bl (anyTrue bs))
  | .sorted, [.lst xs] => if isdats xs && (allAlike xs && (sortableT xs && (Nat.ble (depths xs) 60 && Nat.ble xs.length LINE))) then .ok ⟨.lst (sortT xs), lvl xs⟩ else .stuck
  | .sorted, [.dct ks _] => if isdats ks && (allAlike ks && (sortableT ks && (Nat.ble (depths ks) 60 && Nat.ble ks.length LINE))) then .ok ⟨.lst (sortT ks), lvl ks⟩ else .stuck
  | .dict, [.lst xs] => do
    let p ← pairsT xs
    if p.1.all flatT && nomuts p.2 then .ok ⟨.dct (mergeT p.1 p.2 ([], [])).1 (mergeT p.1 p.2 ([], [])).2, 2⟩ else .stuck
  | .repr, [x] => if x.okrepr then mk2 (.str (rp x)) else .stuck
  | .dget, [.dct ks vs, k, d] => if flatT k && ks.all flatT then .ok ((lookT k ks vs).getD d).rd else .stuck
  | .index, [.lst xs, y] => if y.eqok && (T.lst xs).eqok then do let n ← idxT y xs 0; mk2 (.int n) else .stuck
  | _, _ => .stuck

def idxR (a i : T) : R Val :=
  match a, i with
  | .lst xs, .int k => do let x ← getAt xs k; .ok x.rd
  | .tup xs, .int k => do let x ← getAt xs k; .ok x.rd
  | .dct ks vs, k => if flatT k && ks.all flatT then (match lookT k ks vs with | some v => .ok v.rd | none => .stuck) else .stuck
  | _, _ => .stuck

def slcR (a : T) (lo hi : Option Int) : R Val :=
  match a with
  | .lst xs => .ok ⟨.lst (cut xs lo hi), lvl (cut xs lo hi)⟩
  | .tup xs => .ok (T.tup (cut xs lo hi)).rd
  | _ => .stuck

/-- one after another, what is given collected (n so far) -/
def lcT (step : T → R (Option Val)) : List T → Nat → R (List Val)
  | [], _ => .ok []
  | x :: xs, n => do
    match ← step x with
    | some v => if Nat.blt n LINE then (do let r ← lcT step xs (n + 1); .ok (v :: r)) else .stuck
    | none => lcT step xs n
/-- .. by inner loops -/
def lcTs (step : T → Nat → R (List Val)) : List T → Nat → R (List Val)
  | [], _ => .ok []
  | x :: xs, n => do
    let v ← step x n
    let r ← lcTs step xs (n + v.length)
    .ok (v ++ r)
def mkList (vs : List Val) : R Val := if Nat.ble vs.length LINE then .ok ⟨.lst (ts vs), if all2 vs then 2 else if all3 vs then 3 else 1⟩ else .stuck
def mkTup (vs : List Val) : R Val := if Nat.ble vs.length LINE then .ok ⟨.tup (ts vs), if all2 vs then 2 else 0⟩ else .stuck

section
variable (rp : T → Str) (call : Nat → List T → R Val)
mutual
def evE : E → Env → R Val
  | .var i, τ => match τ[i]? with
    | some (some v) => .ok v.t.rd
    | _ => .stuck
  | .cst t, _ => mk2 t
  | .bin o a b, τ => do
    let x ← evE a τ
    let y ← evE b τ
    binT o x.t y.t
  | .neg a, τ => do
    let x ← evE a τ
    match x.t with
    | .int i => mk2 (.int (-i))
    | _ => .stuck
  | .not a, τ => do
    let x ← evE a τ
    let b ← truthy x.t
    mk2 (.bl !b)
  | .and a b, τ => do
    let x ← evE a τ
    let r ← truthy x.t
    match r with
    | true => evE b τ
    | false => .ok x
  | .or a b, τ => do
    let x ← evE a τ
    let r ← truthy x.t
    match r with
    | true => .ok x
    | false => evE b τ
  | .cmp o a b, τ => do
    let x ← evE a τ
    let y ← evE b τ
    let r ← cmpT o x.t y.t
    mk2 (.bl r)
  | .chain o o' a b c, τ => do
    let x ← evE a τ
    let y ← evE b τ
    let r ← cmpT o x.t y.t
    match r with
    | true => do
      let z ← evE c τ
      let r' ← cmpT o' y.t z.t
      mk2 (.bl r')
    | false => mk2 (.bl false)
  | .ite c a b, τ => do
    let x ← evE c τ
    let r ← truthy x.t
    match r with
    | true => evE a τ
    | false => evE b τ
  | .lst es, τ => do let vs ← evEs es τ; mkList vs
  | .tup es, τ => do let vs ← evEs es τ; mkTup vs
  | .lstS es, τ => do let vs ← evEs es τ; mkList vs
  | .fresh e, τ => do let v ← evE e (hideM τ); .ok (up v)
  | .dsp ks vs, τ => match keysOf ks with
    | some [] => (match vs with | .nil => .ok ⟨.dct [] [], 2⟩ | _ => .stuck)
    | some is => do
      let ws ← evEs vs τ
      if is.length = ws.length ∧ is.length ≤ 15 ∧ is.Nodup then .ok ⟨.dct (is.map .int) (ts ws), 0⟩ else .stuck
    | none => .stuck
  | .idx a i, τ => do
    let x ← evE a τ
    let y ← evE i τ
    idxR x.t y.t
  | .slc a lo hi, τ => do
    let x ← evE a τ
    let l ← evO lo τ
    let h ← evO hi τ
    slcR x.t l h
  | .rev a, τ => do
    let x ← evE a τ
    match x.t with
    | .lst xs => .ok ⟨.lst xs.reverse, lvl xs⟩
    | _ => .stuck
  | .isi a cs, τ => do
    let x ← evE a τ
    let r ← isTys x.t cs
    mk2 (.bl r)
  | .call f es, τ => do
    let vs ← evEs es τ
    call f (ts vs)
  | .callk f pm es ks, τ => do
    let vs ← evEs es τ
    let ws ← evEs ks τ
    call f (pm.map fun i => (ts vs ++ ts ws).getD i .non)
  | .bi b es, τ => do
    let vs ← evEs es τ
    biT rp b (ts vs)
  | .lr1 a, τ => do
    let v ← evE a τ
    match v.t with
    | .int i => if i.natAbs < 2 ^ 62 ∧ i.toNat ≤ LINE then .ok ⟨.lst (rngT 0 i.toNat), lvl (rngT 0 i.toNat)⟩ else .stuck
    | _ => .stuck
  | .lr2 a b, τ => do
    let v ← evE a τ
    let w ← evE b τ
    match v.t, w.t with
    | .int i, .int j => if (i.natAbs < 2 ^ 62 ∧ j.natAbs < 2 ^ 62) ∧ (j - i).toNat ≤ LINE then .ok ⟨.lst (rngT i (j - i).toNat), lvl (rngT i (j - i).toNat)⟩ else .stuck
    | _, _ => .stuck
  | .lc elt tg it cs own, τ => do
    let xs ← evI it τ
    let vs ← (lcT (fun x => do
      let τ' ← setTg tg x.rd (wipes own τ)
      let r ← evCs cs τ'
      match r with
      | true => do let v ← evE elt τ'; .ok (some v)
      | false => .ok none) xs 0).noexc
    mkList vs
  | .lc2 elt tg it cs tg1 it1 cs1 own own1, τ => do
    let xs ← evI it τ
    let vs ← (lcTs (fun x n => do
      let τ' ← setTg tg x.rd (wipes own τ)
      let r ← evCs cs τ'
      match r with
      | true => do
        let ys ← evI it1 τ'
        lcT (fun y => do
          let τ'' ← setTg tg1 y.rd (wipes own1 τ')
          let r1 ← evCs cs1 τ''
          match r1 with
          | true => do let v ← evE elt τ''; .ok (some v)
          | false => .ok none) ys n
      | false => .ok []) xs 0).noexc
    mkList vs
  | .bad, _ => .stuck
def evO : OE → Env → R (Option Int)
  | .no, _ => .ok none
  | .yes e, τ => do
    let v ← evE e τ
    match v.t with
    | .int i => .ok (some i)
    | _ => .stuck
def evEs : Es → Env → R (List Val)
  | .nil, _ => .ok []
  | .cons e es, τ => do
    let v ← evE e τ
    let vs ← evEs es τ
    .ok (v :: vs)
  | .star e es, τ => do
    let v ← evE e τ
    let xs ← seqOf v.t
    let vs ← evEs es τ
    .ok (xs.map T.rd ++ vs)
/-- tests, all to hold -/
def evCs : Es → Env → R Bool
  | .nil, _ => .ok true
  | .cons e es, τ => do
    let v ← evE e τ
    let b ← truthy v.t
    match b with
    | true => evCs es τ
    | false => .ok false
  | .star _ _, _ => .stuck
def evI : It → Env → R (List T)
  | .seq e, τ => do
    let v ← evE e τ
    match v.t with
    | .lst xs => .ok xs
    | .tup xs => .ok xs
    | _ => .stuck
  | .rng1 a, τ => do
    let v ← evE a τ
    match v.t with
    | .int i => if i.natAbs < 2 ^ 62 then .ok (rngT 0 i.toNat) else .stuck
    | _ => .stuck
  | .rng2 a b, τ => do
    let v ← evE a τ
    let w ← evE b τ
    match v.t, w.t with
    | .int i, .int j => if i.natAbs < 2 ^ 62 ∧ j.natAbs < 2 ^ 62 then .ok (rngT i (j - i).toNat) else .stuck
    | _, _ => .stuck
  | .rngS a b c, τ => do
    let v ← evE a τ
    let w ← evE b τ
    let x ← evE c τ
    match v.t, w.t, x.t with
    | .int i, .int j, .int c => if c ≠ 0 ∧ c.natAbs < 1073741824 ∧ Builtin.Range.small i j c = true then .ok (rngC i c (Builtin.Range.rangeSize i j c).toNat) else .stuck
    | _, _, _ => .stuck
  | .rng3 a b c, τ => do
    let v ← evE a τ
    let w ← evE b τ
    match v.t, w.t with
    | .int i, .int j => if i.natAbs < 2 ^ 62 ∧ j.natAbs < 2 ^ 62 ∧ c ≠ 0 ∧ c.natAbs < 2 ^ 62 then .ok (rngC i c (rngLen i j c)) else .stuck
    | _, _ => .stuck
  | .enum a, τ => do
    let v ← evE a τ
    let xs ← seqOf v.t
    .ok (enumT 0 xs)
  | .zip a b, τ => do
    let v ← evE a τ
    let w ← evE b τ
    match v.t, w.t with
    | .lst xs, .lst ys => .ok (zipT xs ys)
    | .tup xs, .tup ys => .ok (zipT xs ys)
    | _, _ => .stuck
  | .items a, τ => do
    let v ← evE a τ
    match v.t with
    | .dct ks vs => if ks.all flatT then .ok (zipT ks vs) else .stuck
    | _ => .stuck
  | .bad, _ => .stuck
end

def setVals : List Nat → List Val → Env → R Env
  | [], [], τ => .ok τ
  | i :: is, v :: vs, τ => setVals is vs (τ.set i (some v))
  | _, _, _ => .stuck

def forT (step : T → Env → R Out) : List T → Env → R Out
  | [], τ => .ok (.nx τ)
  | x :: xs, τ => do
    match ← step x τ with
    | .nx τ' => forT step xs τ'
    | .bk τ' => .ok (.nx τ')
    | .rt v => .ok (.rt v)
def whlT (c : Env → R Bool) (step : Env → R Out) : Nat → Env → R Out
  | 0, _ => .stuck
  | n + 1, τ => do
    match ← c τ with
    | false => .ok (.nx τ)
    | true => do
      match ← step τ with
      | .nx τ' => whlT c step n τ'
      | .bk τ' => .ok (.nx τ')
      | .rt v => .ok (.rt v)

def lstAt (τ : Env) (i : Nat) : Bool := match τ[i]? with
  | some (some ⟨.lst _, _⟩) => true
  | _ => false
def dctAt (τ : Env) (i : Nat) : Bool := match τ[i]? with
  | some (some ⟨.dct _ _, _⟩) => true
  | _ => false
mutual
def evS : S → Env → R Out
  | .asg tg e fz, τ => do
    let v ← evE rp call e (hide fz τ)
    let τ' ← setTg tg v (after fz v τ)
    .ok (.nx τ')
  | .par tgs es fz, τ => do
    let vs ← evEs rp call es (hide fz τ)
    let τ' ← setVals tgs vs (if all2 vs then τ else frz fz τ)
    .ok (.nx τ')
  | .mov i j, τ => match τ[j]? with
    | some (some v) => .ok (.nx ((τ.set j none).set i (some v)))
    | _ => .stuck
  | .sto i k e fz, τ => if lstAt τ i then do
      let v ← evE rp call e (hide fz τ)
      let w ← evE rp call k (hide fz τ)
      let τ' := after fz v τ
      match τ'[i]?, w.t with
      | some (some ⟨.lst xs, l + 1⟩), .int n => if 0 ≤ ixZ xs.length n ∧ ixZ xs.length n < lim l xs.length then .ok (.nx (τ'.set i (some ⟨.lst (xs.set (ixZ xs.length n).toNat v.t), if l = 1 ∧ v.lv = 2 then 2 else 1⟩))) else .stuck
      | _, _ => .stuck
    else .stuck
  | .stod i k e fz, τ => if dctAt τ i then do
      let v ← evE rp call e (hide fz τ)
      let w ← evE rp call k (hide fz τ)
      let τ' := after fz v τ
      match τ'[i]? with
      | some (some ⟨.dct ks vs, l + 1⟩) => if flatT w.t && Nat.blt ks.length (lim l LINE) then .ok (.nx (τ'.set i (some ⟨.dct (putT w.t v.t ks vs).1 (putT w.t v.t ks vs).2, if l = 1 ∧ v.t.nomut = true then 2 else 1⟩))) else .stuck
      | _ => .stuck
    else .stuck
  | .app i e fz, τ => if lstAt τ i then do
      let v ← evE rp call e (hide fz τ)
      let τ' := after fz v τ
      match τ'[i]? with
      | some (some ⟨.lst xs, l + 1⟩) => if Nat.blt xs.length (lim l LINE) then .ok (.nx (τ'.set i (some ⟨.lst (xs ++ [v.t]), if l = 1 ∧ v.lv = 2 then 2 else 1⟩))) else .stuck
      | _ => .stuck
    else .stuck
  | .ext i e fz, τ => if lstAt τ i then do
      let v ← evE rp call e (hide fz τ)
      let τ' := after fz v τ
      match τ'[i]?, v.t with
      | some (some ⟨.lst xs, l + 1⟩), .lst ys => if Nat.blt (xs.length + ys.length) (lim l (LINE + 1)) then .ok (.nx (τ'.set i (some ⟨.lst (xs ++ ys), if l = 1 ∧ v.lv = 2 then 2 else 1⟩))) else .stuck
      | _, _ => .stuck
    else .stuck
  | .exp e, τ => do
    let _ ← evE rp call e τ
    .ok (.nx τ)
  | .ret e, τ => do
    let v ← evE rp call e τ
    .ok (.rt v)
  | .retv i, τ => match τ[i]? with
    | some (some v) => .ok (.rt v)
    | _ => .stuck
  | .retn, _ => .ok (.rt ⟨.non, 2⟩)
  | .iff c a b, τ => do
    let v ← evE rp call c τ
    let r ← truthy v.t
    match r with
    | true => evSs a τ
    | false => evSs b τ
  | .forr tg it b, τ => do
    let xs ← evI rp call it τ
    forT (fun x τ => do
      let τ' ← setTg tg x.rd τ
      evSs b τ') xs τ
  | .for tg it b fz, τ => do
    let xs ← evI rp call it (hide fz τ)
    forT (fun x τ => do
      let τ' ← setTg tg x.rd τ
      evSs b τ') xs (frz fz τ)
  | .fori tg c a b bd fz, τ => do
    let v ← evE rp call c τ
    let r ← truthy v.t
    match r with
    | true => do
      let xs ← evI rp call (.seq a) (hide fz τ)
      forT (fun x τ => do
        let τ' ← setTg tg x.rd τ
        evSs bd τ') xs (frz fz τ)
    | false => do
      let xs ← evI rp call (.seq b) (hide fz τ)
      forT (fun x τ => do
        let τ' ← setTg tg x.rd τ
        evSs bd τ') xs (frz fz τ)
  | .whl n c b, τ => whlT (fun τ => do let v ← evE rp call c τ; truthy v.t) (fun τ => evSs b τ) n τ
  | .rse c e, τ => do
    let v ← evE rp call e τ
    .exc c v.t
  | .spoil i, τ => match τ[i]? with
    | some (some ⟨t, _ + 2⟩) => if t.spo3 && Nat.ble t.depth 6 then .ok (.nx (wipes [i] τ)) else .stuck
    | _ => .stuck
  | .spoilx mv e, τ => do
    let v ← evE rp call e (hideX mv τ)
    if v.t.spo3 && Nat.ble v.t.depth 6 then .ok (.nx (wipes mv τ)) else .stuck
  | .apop i j e fz, τ => if lstAt τ i && (lstAt τ j && !(Nat.beq i j)) then do
      let v ← evE rp call e (hide fz τ)
      let τ' := after fz v τ
      match τ'[i]?, τ'[j]?, v.t with
      | some (some ⟨.lst xs, l + 1⟩), some (some ⟨.lst ys, m + 1⟩), .int n => (match ys[n.toNat]? with
          | some y => if (decide (0 ≤ n ∧ n < lim m ys.length ∧ n < 1073741824) && (y.nomut || Nat.beq m 0)) && Nat.blt xs.length (lim l LINE) then .ok (.nx ((τ'.set j (some ⟨.lst (ys.eraseIdx n.toNat), if m = 1 then 2 else 1⟩)).set i (some ⟨.lst (xs ++ [y]), if l = 1 ∧ y.nomut = true then 2 else 1⟩))) else .stuck
          | none => .stuck)
      | _, _, _ => .stuck
    else .stuck
  | .popv tg j, τ => match τ[j]? with
    | some (some ⟨.lst ys, m + 1⟩) => (match ys[ys.length - 1]? with
      | some y => if Nat.ble 1 (lim m ys.length) then do
          let τ' ← setTg tg y.rd (τ.set j (some ⟨.lst ys.dropLast, if m = 1 ∧ y.nomut = true then 2 else 1⟩))
          .ok (.nx τ')
        else .stuck
      | none => .stuck)
    | _ => .stuck
  | .pass, τ => .ok (.nx τ)
  | .brk, τ => .ok (.bk τ)
  | .bad, _ => .stuck
def evSs : Ss → Env → R Out
  | .nil, τ => .ok (.nx τ)
  | .cons s ss, τ => do
    match ← evS s τ with
    | .nx τ' => evSs ss τ'
    | o => .ok o
  | .kill is ss, τ => evSs ss (wipes is τ)
end
end

/-- a def: how many parameters, how many names, its body; a draw -/
inductive Fd where
  | fn (np ns : Nat) (b : Ss)
  | draw

def run (rp : T → Str) (P : List Fd) : Nat → Nat → List T → R Val
  | 0, _, _ => .stuck
  | k + 1, f, as => match P[f]? with
    | some (.fn np ns b) => if as.length = np then do
        match ← evSs rp (run rp P k) b (as.map (fun t => some t.rd) ++ List.replicate (ns - np) none) with
        | .rt v => .ok v
        | .nx _ => .ok ⟨.non, 2⟩
        | .bk _ => .stuck
      else .stuck
    | some .draw => match as with
      | [.tok 1, .int n] => if 0 < n ∧ n < 1073741824 then .draw n.toNat fun i => .ok ⟨.int i, 2⟩ else .stuck
      | _ => .stuck
    | none => .stuck
end TM

set_option Elab.async false
set_option linter.all false
set_option maxRecDepth 100000
set_option maxHeartbeats 4000000
namespace TM
open PySem L2

/-! ### all ways out, with what is left of the draws -/
def Sat {α : Type} (Q : α → Nat → Prop) (E : Nat → T → Nat → Prop) : R α → Nat → Prop
  | .ok a, b => Q a b
  | .draw n k, b => 0 < n ∧ 0 < b ∧ ∀ i, i < n → Sat Q E (k i) (b - 1)
  | .exc c v, b => E c v b
  | .stuck, _ => False
theorem sat_bind {α β : Type} {Q : β → Nat → Prop} {E : Nat → T → Nat → Prop} {f : α → R β} : ∀ (r : R α) (b : Nat), Sat Q E (r >>= f) b ↔ Sat (fun a b' => Sat Q E (f a) b') E r b
  | .ok _, _ => Iff.rfl
  | .draw n k, b => by
    show (0 < n ∧ 0 < b ∧ ∀ i, i < n → Sat Q E ((k i) >>= f) (b - 1)) ↔ _
    constructor
    · rintro ⟨h1, h2, h3⟩
      exact ⟨h1, h2, fun i hi => (sat_bind (k i) (b - 1)).1 (h3 i hi)⟩
    · rintro ⟨h1, h2, h3⟩
      exact ⟨h1, h2, fun i hi => (sat_bind (k i) (b - 1)).2 (h3 i hi)⟩
  | .exc _ _, _ => Iff.rfl
  | .stuck, _ => Iff.rfl
theorem Sat.imp {α : Type} {Q Q' : α → Nat → Prop} {E E' : Nat → T → Nat → Prop} (hQ : ∀ a b, Q a b → Q' a b) (hE : ∀ c v b, E c v b → E' c v b) : ∀ {r : R α} {b : Nat}, Sat Q E r b → Sat Q' E' r b
  | .ok _, _, h => hQ _ _ h
  | .draw _ _, _, ⟨h1, h2, h3⟩ => ⟨h1, h2, fun i hi => Sat.imp hQ hE (h3 i hi)⟩
  | .exc _ _, _, h => hE _ _ _ h
  | .stuck, _, h => h

/-! ### trees in the heap -/
abbrev Gb := Option (Addr × Addr)
def vol : Gb → Addr → Prop
  | none, _ => False
  | some (s, l), a => a = s ∨ a = l
def SInv : Gb → Nat → Hp → Prop
  | none, _, _ => True
  | some (s, l), b, H => s ≠ l ∧ ∃ (ns : List Int) (x y z : Int), H s = some (.lst [.ref l, .int x, .int y, .int z]) ∧ H l = some (.lst (ns.map V.int)) ∧ ns.length ≤ 1000 ∧ 0 ≤ x ∧ 0 ≤ y ∧ y + b ≤ 1099511627776 ∧ 0 ≤ z ∧ z < 2147483629
/-- all but the stream stands -/
def Ext (G : Gb) (H H' : Hp) : Prop := ∀ a o, H a = some o → ¬ vol G a → H' a = some o
abbrev Fz := Addr → Prop
def keyT : Key → T
  | .inl i => .int i
  | .inr s => .str s

mutual
/-- v is the tree t, its lists and dicts all in F -/
inductive Rep (G : Gb) (F : Fz) (H : Hp) : V → T → Prop
  | non : Rep G F H .non .non
  | bl (b : Bool) : Rep G F H (.bl b) (.bl b)
  | int (i : Int) : Rep G F H (.int i) (.int i)
  | str (x : Str) : Rep G F H (.str x) (.str x)
  | tok {s l : Addr} : G = some (s, l) → Rep G F H (.ref s) (.tok 1)
  | adr {a : Addr} : Rep G F H (.ref a) (.tok (a + 2))
  | lst {a : Addr} {vs : List V} {us : List T} : F a → H a = some (.lst vs) → Reps G F H vs us → Rep G F H (.ref a) (.lst us)
  | tup {a : Addr} {vs : List V} {us : List T} : H a = some (.tup vs) → Reps G F H vs us → Rep G F H (.ref a) (.tup us)
  | dct {a : Addr} {kvs : List (Key × V)} {us : List T} : F a → H a = some (.dK kvs) → Reps G F H (kvs.map (·.2)) us → Rep G F H (.ref a) (.dct (kvs.map fun p => keyT p.1) us)
inductive Reps (G : Gb) (F : Fz) (H : Hp) : List V → List T → Prop
  | nil : Reps G F H [] []
  | cons {v : V} {vs : List V} {u : T} {us : List T} : Rep G F H v u → Reps G F H vs us → Reps G F H (v :: vs) (u :: us)
end
mutual
/-- v is the tree t, its lists and dicts just those of fp, but for what can't change -/
inductive RepD (G : Gb) (F : Fz) (H : Hp) : V → T → List Addr → Prop
  | sh {v : V} {t : T} : t.nomut = true → Rep G F H v t → RepD G F H v t []
  | lst {a : Addr} {vs : List V} {us : List T} {fp : List Addr} : H a = some (.lst vs) → RepDs G F H vs us fp → RepD G F H (.ref a) (.lst us) (a :: fp)
  | tup {a : Addr} {vs : List V} {us : List T} {fp : List Addr} : H a = some (.tup vs) → RepDs G F H vs us fp → RepD G F H (.ref a) (.tup us) fp
  | dct {a : Addr} {kvs : List (Key × V)} {us : List T} {fp : List Addr} : H a = some (.dK kvs) → RepDs G F H (kvs.map (·.2)) us fp → RepD G F H (.ref a) (.dct (kvs.map fun p => keyT p.1) us) (a :: fp)
inductive RepDs (G : Gb) (F : Fz) (H : Hp) : List V → List T → List Addr → Prop
  | nil : RepDs G F H [] [] []
  | cons {v : V} {vs : List V} {u : T} {us : List T} {fp fp' : List Addr} : RepD G F H v u fp → RepDs G F H vs us fp' → RepDs G F H (v :: vs) (u :: us) (fp ++ fp')
end
/-- a value as its level says -/
def RepV (G : Gb) (F : Fz) (H : Hp) (v : V) (u : Val) (fp : List Addr) : Prop :=
  match u.lv with
  | 0 => Rep G F H v u.t ∧ fp = []
  | 1 => ∃ a, v = .ref a ∧ fp = [a] ∧ ((∃ vs us, u.t = .lst us ∧ H a = some (.lst vs) ∧ Reps G F H vs us) ∨ ∃ kvs us, u.t = .dct (kvs.map fun p => keyT p.1) us ∧ H a = some (.dK kvs) ∧ Reps G F H (kvs.map (·.2)) us)
  | 2 => RepD G F H v u.t fp
  | 3 => u.t.nomut = false ∧ Rep G (fun a => a ∈ fp) H v u.t ∧ ∀ a ∈ fp, (∃ xs, H a = some (.lst xs)) ∨ ∃ kvs, H a = some (.dK kvs)
  | _ => False
def por (F : Fz) (fp : List Addr) : Fz := fun a => F a ∨ a ∈ fp

section
variable {G : Gb} {F F' : Fz} {H H' : Hp}
/-- no list, no dict of it is the stream's -/
def Off (G : Gb) (F : Fz) : Prop := ∀ a, F a → ¬ vol G a
theorem SInv.vol_lst {b : Nat} (h : SInv G b H) {a : Addr} (hv : vol G a) : ∃ xs, H a = some (.lst xs) := by
  cases G with
  | none => exact hv.elim
  | some p =>
    obtain ⟨s, l⟩ := p
    obtain ⟨_, ns, x, y, z, h1, h2, _⟩ := h
    rcases hv with rfl | rfl
    · exact ⟨_, h1⟩
    · exact ⟨_, h2⟩
theorem SInv.mono {b b' : Nat} (h : SInv G b H) (hb : b' ≤ b) : SInv G b' H := by
  cases G with
  | none => trivial
  | some p =>
    obtain ⟨s, l⟩ := p
    obtain ⟨hne, ns, x, y, z, h1, h2, h3, h4, h5, h6, h7⟩ := h
    exact ⟨hne, ns, x, y, z, h1, h2, h3, h4, h5, by omega, h7⟩
theorem SInv.tup_off {b : Nat} (h : SInv G b H) {a : Addr} {xs : List V} (e : H a = some (.tup xs)) : ¬ vol G a := fun q => by
  obtain ⟨ys, e'⟩ := h.vol_lst q
  rw [e] at e'; cases e'
theorem Ext.refl : Ext G H H := fun _ _ e _ => e
theorem Ext.trans {H'' : Hp} (a : Ext G H H') (b : Ext G H' H'') : Ext G H H'' := fun x o e h => b x o (a x o e h) h
theorem Ext.upd_new {p : Addr} {o : HO} (h : H p = none) : Ext G H (upd H p o) := fun a u e _ => by
  rw [upd_ne (ne_of_none e h)]; exact e

/-- what the trees lean on stands in the other heap -/
structure Lift (G : Gb) (F F' : Fz) (H H' : Hp) : Prop where
  fr : ∀ a, F a → F' a
  ho : ∀ a o, H a = some o → (F a ∨ ∃ xs, o = .tup xs) → H' a = some o
theorem Lift.refl : Lift G F F H H := ⟨fun _ h => h, fun _ _ e _ => e⟩
theorem lift_of {b : Nat} (hs : SInv G b H) (x : Ext G H H') (f : ∀ a, F a → F' a) (off : Off G F) : Lift G F F' H H' :=
  ⟨f, fun a o e h => x a o e (by
    rcases h with h | ⟨xs, rfl⟩
    · exact off a h
    · exact hs.tup_off e)⟩
mutual
theorem Rep.lift (L : Lift G F F' H H') : ∀ {v : V} {t : T}, Rep G F H v t → Rep G F' H' v t
  | _, _, .non => .non
  | _, _, .bl b => .bl b
  | _, _, .int i => .int i
  | _, _, .str x => .str x
  | _, _, .tok e => .tok e
  | _, _, .adr => .adr
  | _, _, .lst f e r => .lst (L.fr _ f) (L.ho _ _ e (.inl f)) (Reps.lift L r)
  | _, _, .tup e r => .tup (L.ho _ _ e (.inr ⟨_, rfl⟩)) (Reps.lift L r)
  | _, _, .dct f e r => .dct (L.fr _ f) (L.ho _ _ e (.inl f)) (Reps.lift L r)
theorem Reps.lift (L : Lift G F F' H H') : ∀ {vs : List V} {us : List T}, Reps G F H vs us → Reps G F' H' vs us
  | _, _, .nil => .nil
  | _, _, .cons r rs => .cons (Rep.lift L r) (Reps.lift L rs)
end
/-- .. and what is owned at fp, too -/
structure LiftD (G : Gb) (F F' : Fz) (H H' : Hp) (fp : List Addr) : Prop extends Lift G F F' H H' where
  own : ∀ a o, a ∈ fp → H a = some o → H' a = some o
mutual
theorem RepD.lift : ∀ {v : V} {t : T} {fp : List Addr}, LiftD G F F' H H' fp → RepD G F H v t fp → RepD G F' H' v t fp
  | _, _, _, L, .sh n r => .sh n (r.lift L.toLift)
  | _, _, _, L, .lst e r => .lst (L.own _ _ List.mem_cons_self e) (RepDs.lift ⟨L.toLift, fun a o h => L.own a o (List.mem_cons_of_mem _ h)⟩ r)
  | _, _, _, L, .tup e r => .tup (L.ho _ _ e (.inr ⟨_, rfl⟩)) (RepDs.lift L r)
  | _, _, _, L, .dct e r => .dct (L.own _ _ List.mem_cons_self e) (RepDs.lift ⟨L.toLift, fun a o h => L.own a o (List.mem_cons_of_mem _ h)⟩ r)
theorem RepDs.lift : ∀ {vs : List V} {us : List T} {fp : List Addr}, LiftD G F F' H H' fp → RepDs G F H vs us fp → RepDs G F' H' vs us fp
  | _, _, _, _, .nil => .nil
  | _, _, _, L, .cons r rs => .cons (RepD.lift ⟨L.toLift, fun a o h => L.own a o (List.mem_append_left _ h)⟩ r) (RepDs.lift ⟨L.toLift, fun a o h => L.own a o (List.mem_append_right _ h)⟩ rs)
end
mutual
/-- shared from now on -/
theorem RepD.share : ∀ {v : V} {t : T} {fp : List Addr} {F' : Fz}, (∀ a, F a → F' a) → (∀ a, a ∈ fp → F' a) → RepD G F H v t fp → Rep G F' H v t
  | _, _, _, _, h, _, .sh _ r => r.lift ⟨h, fun _ _ e _ => e⟩
  | _, _, _, _, h, h', .lst e r => .lst (h' _ List.mem_cons_self) e (RepDs.share h (fun a k => h' a (List.mem_cons_of_mem _ k)) r)
  | _, _, _, _, h, h', .tup e r => .tup e (RepDs.share h h' r)
  | _, _, _, _, h, h', .dct e r => .dct (h' _ List.mem_cons_self) e (RepDs.share h (fun a k => h' a (List.mem_cons_of_mem _ k)) r)
theorem RepDs.share : ∀ {vs : List V} {us : List T} {fp : List Addr} {F' : Fz}, (∀ a, F a → F' a) → (∀ a, a ∈ fp → F' a) → RepDs G F H vs us fp → Reps G F' H vs us
  | _, _, _, _, _, _, .nil => .nil
  | _, _, _, _, h, h', .cons r rs => .cons (RepD.share h (fun a k => h' a (List.mem_append_left _ k)) r) (RepDs.share h (fun a k => h' a (List.mem_append_right _ k)) rs)
end
theorem RepV.share {v : V} {u : Val} {fp : List Addr} (r : RepV G F H v u fp) : Rep G (por F fp) H v u.t := by
  obtain ⟨t, lv⟩ := u
  match lv, r with
  | 0, r => exact r.1.lift ⟨fun _ => .inl, fun _ _ e _ => e⟩
  | 1, r =>
    obtain ⟨a, rfl, rfl, h⟩ := r
    rcases h with ⟨vs, us, rfl, e, r⟩ | ⟨kvs, us, rfl, e, r⟩
    · exact .lst (.inr List.mem_cons_self) e (r.lift ⟨fun _ => .inl, fun _ _ e _ => e⟩)
    · exact .dct (.inr List.mem_cons_self) e (r.lift ⟨fun _ => .inl, fun _ _ e _ => e⟩)
  | 2, r => exact RepD.share (fun _ => .inl) (fun _ => .inr) r
  | 3, r => exact r.2.1.lift ⟨fun _ => .inr, fun _ _ e _ => e⟩
  | n + 4, r => exact r.elim
theorem RepV.lift {v : V} {u : Val} {fp : List Addr} (L : LiftD G F F' H H' fp) (r : RepV G F H v u fp) : RepV G F' H' v u fp := by
  obtain ⟨t, lv⟩ := u
  match lv, r with
  | 0, r => exact ⟨r.1.lift L.toLift, r.2⟩
  | 1, r =>
    obtain ⟨a, rfl, rfl, h⟩ := r
    refine ⟨a, rfl, rfl, ?_⟩
    rcases h with ⟨vs, us, h1, e, r⟩ | ⟨kvs, us, h1, e, r⟩
    · exact .inl ⟨vs, us, h1, L.own _ _ List.mem_cons_self e, r.lift L.toLift⟩
    · exact .inr ⟨kvs, us, h1, L.own _ _ List.mem_cons_self e, r.lift L.toLift⟩
  | 2, r => exact RepD.lift (G := G) L r
  | 3, r =>
    exact ⟨r.1, r.2.1.lift ⟨fun _ h => h, fun a o e h => by
      rcases h with h | h
      · exact L.own a o h e
      · exact L.ho a o e (.inr h)⟩, fun a ha => by
      rcases r.2.2 a ha with ⟨xs, h⟩ | ⟨xs, h⟩
      · exact .inl ⟨xs, L.own a _ ha h⟩
      · exact .inr ⟨xs, L.own a _ ha h⟩⟩
  | n + 4, r => exact r.elim
theorem repV_rd {v : V} {t : T} (r : Rep G F H v t) : RepV G F H v t.rd [] := by
  unfold T.rd
  cases h : t.nomut
  · exact ⟨r, rfl⟩
  · exact RepD.sh h r
theorem repV_sc {v : V} {t : T} (h : t.nomut = true) (r : Rep G F H v t) : RepV G F H v ⟨t, 2⟩ [] := RepD.sh h r

/-! ### lists of them -/
theorem Reps.length : ∀ {vs : List V} {us : List T}, Reps G F H vs us → vs.length = us.length
  | _, _, .nil => rfl
  | _, _, .cons _ r => congrArg (· + 1) r.length
theorem Reps.append : ∀ {vs ws : List V} {us ys : List T}, Reps G F H vs us → Reps G F H ws ys → Reps G F H (vs ++ ws) (us ++ ys)
  | _, _, _, _, .nil, s => s
  | _, _, _, _, .cons r rs, s => .cons r (rs.append s)
theorem Reps.get : ∀ {vs : List V} {us : List T} {i : Nat} {t : T}, Reps G F H vs us → us[i]? = some t → ∃ v, vs[i]? = some v ∧ Rep G F H v t
  | _, _, _, _, .nil, e => by simp at e
  | _, _, 0, _, .cons r _, e => by simp at e; subst e; exact ⟨_, rfl, r⟩
  | _, _, i + 1, _, .cons _ rs, e => by
    obtain ⟨v, h1, h2⟩ := rs.get (i := i) (by simpa using e)
    exact ⟨v, by simpa using h1, h2⟩
theorem Reps.take : ∀ {vs : List V} {us : List T} (n : Nat), Reps G F H vs us → Reps G F H (vs.take n) (us.take n)
  | _, _, 0, _ => by simp; exact .nil
  | _, _, _ + 1, .nil => by simp; exact .nil
  | _, _, n + 1, .cons r rs => .cons r (rs.take n)
theorem Reps.drop : ∀ {vs : List V} {us : List T} (n : Nat), Reps G F H vs us → Reps G F H (vs.drop n) (us.drop n)
  | _, _, 0, r => r
  | _, _, _ + 1, .nil => by simp; exact .nil
  | _, _, n + 1, .cons _ rs => rs.drop n
theorem Reps.reverse : ∀ {vs : List V} {us : List T}, Reps G F H vs us → Reps G F H vs.reverse us.reverse
  | _, _, .nil => .nil
  | _, _, .cons r rs => by
    rw [List.reverse_cons, List.reverse_cons]
    exact rs.reverse.append (.cons r .nil)
/-- nothing in them can change: no F is leant on -/
theorem repD_of_nomut {v : V} {t : T} (h : t.nomut = true) (r : Rep G F H v t) : RepD G F H v t [] := .sh h r
theorem repDs_of_nomuts : ∀ {vs : List V} {us : List T}, nomuts us = true → Reps G F H vs us → RepDs G F H vs us []
  | _, _, _, .nil => .nil
  | v :: vs, u :: us, h, .cons r rs => by
    have h : (u.nomut && nomuts us) = true := h
    rw [Bool.and_eq_true] at h
    exact RepDs.cons (fp := []) (fp' := []) (repD_of_nomut h.1 r) (repDs_of_nomuts h.2 rs)
/-- a new list of shared things -/
theorem repV_new {p : Addr} {vs : List V} {us : List T} (hp : H p = none) (r : Reps G F H vs us) (nf : ¬ F p) (b : Nat) (hs : SInv G b H) (off : Off G F) : RepV G F (upd H p (.lst vs)) (.ref p) ⟨.lst us, lvl us⟩ [p] := by
  have L : Lift G F F H (upd H p (.lst vs)) := ⟨fun _ h => h, fun a o e _ => by rw [upd_ne (ne_of_none e hp)]; exact e⟩
  unfold lvl
  split
  · rename_i h
    exact RepD.lst upd_same (repDs_of_nomuts h (r.lift L))
  · exact ⟨p, rfl, rfl, .inl ⟨vs, us, rfl, upd_same, r.lift L⟩⟩
end
end TM

set_option Elab.async false
set_option linter.all false
set_option maxRecDepth 100000
set_option maxHeartbeats 4000000
namespace TM
open PySem PySem.Spec L2

/-- what is frozen is there, and not the stream's -/
def FOk (G : Gb) (F : Fz) (H : Hp) : Prop := ∀ a, F a → ¬ vol G a ∧ ∃ o, H a = some o
structure Stp (G : Gb) (F : Fz) (H : Hp) (F' : Fz) (H' : Hp) (b' : Nat) : Prop where
  ext : Ext G H H'
  mono : ∀ a, F a → F' a
  new : ∀ a, F' a → F a ∨ H a = none
  ok : FOk G F' H'
  inv : SInv G b' H'
def Own (F : Fz) (H : Hp) (fp : List Addr) : Prop := fp.Nodup ∧ ∀ a ∈ fp, H a = none ∧ ¬ F a
def Vw (G : Gb) (F : Fz) (H : Hp) (σ : St) (τ : TM.Env) : Prop := τ.length = σ.length ∧ ∀ (i : Nat) (u : Val), τ[i]? = some (some u) → ∃ v, σ[i]? = some (some v) ∧ Rep G F H v u.t
structure Pre (G : Gb) (F : Fz) (H : Hp) (σ : St) (τ : Env) (b : Nat) : Prop where
  ok : FOk G F H
  inv : SInv G b H
  vw : Vw G F H σ τ
abbrev XW := Nat → V → Hp → Prop
def ES (G : Gb) (F : Fz) (H : Hp) (W : XW) : Nat → T → Nat → Prop := fun c t b' => ∀ v H' F', Stp G F H F' H' b' → Rep G F' H' v t → W c v H'
def EQ (G : Gb) (F : Fz) (H : Hp) (Q : VK) : Val → Nat → Prop := fun u b' => ∀ v H' F' fp, Stp G F H F' H' b' → RepV G F' H' v u fp → Own F' H fp → Q v H'

section
variable {G : Gb} {F F' F1 F2 : Fz} {H H' H1 H2 : Hp} {b b' b1 b2 : Nat} {σ : St} {τ : Env} {Q : VK} {W : XW}
theorem FOk.off (h : FOk G F H) : Off G F := fun a f => (h a f).1
theorem Stp.refl (h : FOk G F H) (s : SInv G b H) : Stp G F H F H b := ⟨Ext.refl, fun _ f => f, fun _ f => .inl f, h, s⟩
/-- nothing is taken away from the heap's bounds -/
theorem none_back (s : SInv G b H) (s' : SInv G b' H') (x : Ext G H H') {a : Addr} (h : H' a = none) : H a = none := by
  cases e : H a with
  | none => rfl
  | some o =>
    by_cases q : vol G a
    · obtain ⟨xs, e'⟩ := s'.vol_lst q
      rw [h] at e'; cases e'
    · rw [x a o e q] at h; cases h
theorem Stp.trans (s : SInv G b H) (p : Stp G F H F1 H1 b1) (q : Stp G F1 H1 F2 H2 b2) : Stp G F H F2 H2 b2 :=
  ⟨p.ext.trans q.ext, fun a f => q.mono a (p.mono a f), fun a f => by
    rcases q.new a f with f | f
    · exact p.new a f
    · exact .inr (none_back s p.inv p.ext f), q.ok, q.inv⟩
theorem Stp.lift (s : SInv G b H) (ok : FOk G F H) (p : Stp G F H F1 H1 b1) : Lift G F F1 H H1 := lift_of s p.ext p.mono ok.off
theorem Pre.next (p : Pre G F H σ τ b) (st : Stp G F H F1 H1 b1) : Pre G F1 H1 σ τ b1 :=
  ⟨st.ok, st.inv, p.vw.1, fun i u e => by
    obtain ⟨v, h1, h2⟩ := p.vw.2 i u e
    exact ⟨v, h1, h2.lift (st.lift p.inv p.ok)⟩⟩
theorem ES.next (s : SInv G b H) (st : Stp G F H F1 H1 b1) {c : Nat} {t : T} {b2 : Nat} (h : ES G F H W c t b2) : ES G F1 H1 W c t b2 := fun v H' F' st' r => h v H' F' (st.trans s st') r
theorem EQ.next (s : SInv G b H) (st : Stp G F H F1 H1 b1) {u : Val} {b2 : Nat} (h : EQ G F H Q u b2) : EQ G F1 H1 Q u b2 := fun v H' F' fp st' r o => h v H' F' fp (st.trans s st') r ⟨o.1, fun a ha => ⟨none_back s st.inv st.ext (o.2 a ha).1, (o.2 a ha).2⟩⟩
theorem sat_next (s : SInv G b H) (st : Stp G F H F1 H1 b1) {r : R Val} {b2 : Nat} (h : Sat (EQ G F H Q) (ES G F H W) r b2) : Sat (EQ G F1 H1 Q) (ES G F1 H1 W) r b2 := h.imp (fun _ _ => EQ.next s st) fun _ _ _ => ES.next s st
mutual
theorem RepD.there : ∀ {v : V} {t : T} {fp : List Addr}, RepD G F H v t fp → ∀ a ∈ fp, ∃ o, H a = some o
  | _, _, _, .sh _ _, a, h => nomatch h
  | _, _, _, .lst e r, a, h => by
    rcases List.mem_cons.mp h with rfl | h
    · exact ⟨_, e⟩
    · exact RepDs.there r a h
  | _, _, _, .tup _ r, a, h => RepDs.there r a h
  | _, _, _, .dct e r, a, h => by
    rcases List.mem_cons.mp h with rfl | h
    · exact ⟨_, e⟩
    · exact RepDs.there r a h
theorem RepDs.there : ∀ {vs : List V} {us : List T} {fp : List Addr}, RepDs G F H vs us fp → ∀ a ∈ fp, ∃ o, H a = some o
  | _, _, _, .nil, a, h => nomatch h
  | _, _, _, .cons r rs, a, h => by
    rcases List.mem_append.mp h with h | h
    · exact RepD.there r a h
    · exact RepDs.there rs a h
end
theorem RepV.there {v : V} {u : Val} {fp : List Addr} (r : RepV G F H v u fp) : ∀ a ∈ fp, ∃ o, H a = some o := by
  obtain ⟨t, lv⟩ := u
  match lv, r with
  | 0, r => intro a h; rw [r.2] at h; exact nomatch h
  | 1, r =>
    obtain ⟨a, rfl, rfl, h⟩ := r
    intro c hc
    rcases List.mem_cons.mp hc with rfl | hc
    · rcases h with ⟨vs, us, _, e, _⟩ | ⟨kvs, us, _, e, _⟩
      · exact ⟨_, e⟩
      · exact ⟨_, e⟩
    · exact nomatch hc
  | 2, r => exact RepD.there r
  | 3, r =>
    intro a ha
    rcases r.2.2 a ha with ⟨xs, h⟩ | ⟨xs, h⟩ <;> exact ⟨_, h⟩
  | n + 4, r => exact r.elim
theorem not_vol_of_none (s : SInv G b H) {a : Addr} (h : H a = none) : ¬ vol G a := fun q => by
  obtain ⟨xs, e⟩ := s.vol_lst q
  rw [h] at e; cases e
/-- what is new and owned is frozen -/
theorem Stp.freeze (s : SInv G b H) (p : Stp G F H F1 H1 b1) {fp : List Addr} (hn : ∀ a ∈ fp, H a = none) (ht : ∀ a ∈ fp, ∃ o, H1 a = some o) : Stp G F H (por F1 fp) H1 b1 :=
  ⟨p.ext, fun a f => .inl (p.mono a f), fun a f => by
    rcases f with f | f
    · exact p.new a f
    · exact .inr (hn a f), fun a f => by
    rcases f with f | f
    · exact p.ok a f
    · exact ⟨not_vol_of_none s (hn a f), ht a f⟩, p.inv⟩
/-- owned things stand where others are made -/
theorem own_lift (s : SInv G b H) (ok : FOk G F H) (p : Stp G F H F1 H1 b1) {v : V} {u : Val} {fp : List Addr} (r : RepV G F H v u fp) (hv : ∀ a ∈ fp, ¬ vol G a) : RepV G F1 H1 v u fp :=
  r.lift ⟨p.lift s ok, fun a o ha e => p.ext a o e (hv a ha)⟩
theorem own_out (p : Stp G F H F1 H1 b1) {fp : List Addr} (ht : ∀ a ∈ fp, ∃ o, H a = some o) (hf : ∀ a ∈ fp, ¬ F a) : ∀ a ∈ fp, ¬ F1 a := fun a ha f => by
  rcases p.new a f with f | f
  · exact hf a ha f
  · obtain ⟨o, e⟩ := ht a ha
    rw [f] at e; cases e

/-! ### the last step -/
theorem fin_at (h : EQ G F H Q ⟨t, lv⟩ b) (ok : FOk G F H) (s : SInv G b H) {v : V} (r : RepV G F H v ⟨t, lv⟩ []) : Q v H := h v H F [] (Stp.refl ok s) r ⟨List.nodup_nil, fun _ k => nomatch k⟩
theorem fin_sc {t : T} (h : EQ G F H Q ⟨t, 2⟩ b) (ok : FOk G F H) (s : SInv G b H) {v : V} (n : t.nomut = true) (r : Rep G F H v t) : Q v H := fin_at h ok s (repV_sc n r)
theorem fin_rd {t : T} (h : EQ G F H Q t.rd b) (ok : FOk G F H) (s : SInv G b H) {v : V} (r : Rep G F H v t) : Q v H := fin_at h ok s (repV_rd r)
theorem stp_new (ok : FOk G F H) (s : SInv G b H) {p : Addr} {o : HO} (hp : H p = none) : Stp G F H F (upd H p o) b :=
  ⟨Ext.upd_new hp, fun _ f => f, fun _ f => .inl f, fun a f => ⟨(ok a f).1, by
    obtain ⟨u, e⟩ := (ok a f).2
    exact ⟨u, by rw [upd_ne (ne_of_none e hp)]; exact e⟩⟩, by
    cases G with
    | none => trivial
    | some q =>
      obtain ⟨x, l⟩ := q
      obtain ⟨hne, ns, i, j, k, h1, h2, h3⟩ := s
      exact ⟨hne, ns, i, j, k, by rw [upd_ne (ne_of_none h1 hp)]; exact h1, by rw [upd_ne (ne_of_none h2 hp)]; exact h2, h3⟩⟩
theorem fok_new (ok : FOk G F H) {p : Addr} (hp : H p = none) : ¬ F p := fun f => by
  obtain ⟨o, e⟩ := (ok p f).2
  rw [hp] at e; cases e
theorem own_one {p : Addr} (ok : FOk G F H) (hp : H p = none) : Own F H [p] := ⟨by simp, fun a ha => by
  have e : a = p := by simpa using ha
  subst e
  exact ⟨hp, fok_new ok hp⟩⟩
theorem fin_lst {us : List T} {vs : List V} (h : EQ G F H Q ⟨.lst us, lvl us⟩ b) (ok : FOk G F H) (s : SInv G b H) (r : Reps G F H vs us) : ∀ p, H p = none → Q (.ref p) (upd H p (.lst vs)) := fun p hp =>
  h _ _ F [p] (stp_new ok s hp) (repV_new hp r (fok_new ok hp) b s ok.off) (own_one ok hp)
theorem fin_tup {us : List T} {vs : List V} (h : EQ G F H Q (T.tup us).rd b) (ok : FOk G F H) (s : SInv G b H) (r : Reps G F H vs us) : ∀ p, H p = none → Q (.ref p) (upd H p (.tup vs)) := fun p hp =>
  h _ _ F [] (stp_new ok s hp) (repV_rd (.tup upd_same (r.lift ⟨fun _ f => f, fun a o e _ => by rw [upd_ne (ne_of_none e hp)]; exact e⟩))) ⟨List.nodup_nil, fun _ k => nomatch k⟩
end

/-! ### readings -/
section
variable (rp : T → Str) (call : Nat → List T → R Val) (W : XW)
def tE (A : E) : TE := fun σ H Q => ∃ G F τ b, Pre G F H σ τ b ∧ Sat (EQ G F H Q) (ES G F H W) (evE rp call A τ) b
/-- a test -/
def tC (A : E) : TT := fun σ H Q => ∃ G F τ b, Pre G F H σ τ b ∧ Sat (fun r b' => ∀ H' F', Stp G F H F' H' b' → Q r H') (ES G F H W) (do let v ← evE rp call A τ; truthy v.t) b
end

theorem PE.imp {X : Cx} {e : Expr} {t t' : TE} (h : PE X e t) (i : ∀ σ H Q, t' σ H Q → t σ H Q) : PE X e t' := ⟨fun pins s σ H Q I q => h.run pins s σ H Q I (i σ H Q q)⟩
theorem PT.imp {X : Cx} {e : Expr} {t t' : TT} (h : PT X e t) (i : ∀ σ H Q, t' σ H Q → t σ H Q) : PT X e t' := ⟨fun pins s σ H Q I q => h.run pins s σ H Q I (i σ H Q q)⟩
theorem PW.imp {X : Cx} {e : Expr} {t t' : TT} (h : PW X e t) (i : ∀ σ H Q, t' σ H Q → t σ H Q) : PW X e t' := ⟨fun whole pins s σ H Q I q => h.run whole pins s σ H Q I (i σ H Q q)⟩

section
variable {X : Cx} {rp : T → Str} {call : Nat → List T → R Val} {W : XW} {G : Gb} {F : Fz} {H : Hp} {b : Nat} {σ : St} {τ : Env} {Q : VK} {pos : Pos}
abbrev SE (X : Cx) (rp : T → Str) (call : Nat → List T → R Val) (W : XW) (e : Expr) (A : E) : Prop := PE X e (tE rp call W A)
abbrev SC (X : Cx) (rp : T → Str) (call : Nat → List T → R Val) (W : XW) (e : Expr) (A : E) : Prop := PT X e (tC rp call W A)

/-- one part: its value shared from then on -/
theorem one {β : Type} {A : E} {f : Val → R β} {Qb : β → Nat → Prop} (pre : Pre G F H σ τ b) {Rq : V → Hp → Prop} {Eb : Nat → T → Nat → Prop}
    (h : Sat Qb Eb (do let x ← evE rp call A τ; f x) b) (he : ∀ c t b', Eb c t b' → ES G F H W c t b')
    (k : ∀ x v F1 H1 b1, Stp G F H F1 H1 b1 → Rep G F1 H1 v x.t → Sat Qb Eb (f x) b1 → Rq v H1) : tE rp call W A σ H Rq := by
  refine ⟨G, F, τ, b, pre, ((sat_bind _ _).1 h).imp (fun x b1 hx v H1 F1 fp st r o => ?_) he⟩
  exact k x v (por F1 fp) H1 b1 (st.freeze pre.inv (fun a ha => (o.2 a ha).1) r.there) r.share hx
theorem oneV {A : E} {f : Val → R Val} (pre : Pre G F H σ τ b) {Rq : V → Hp → Prop}
    (h : Sat (EQ G F H Q) (ES G F H W) (do let x ← evE rp call A τ; f x) b)
    (k : ∀ x v F1 H1 b1, Stp G F H F1 H1 b1 → Rep G F1 H1 v x.t → Sat (EQ G F1 H1 Q) (ES G F1 H1 W) (f x) b1 → Rq v H1) : tE rp call W A σ H Rq :=
  one pre h (fun _ _ _ z => z) fun x v F1 H1 b1 st r hx => k x v F1 H1 b1 st r (sat_next pre.inv st hx)
theorem twoV {A B : E} {f : Val → Val → R Val} (pre : Pre G F H σ τ b) {Rq : V → V → Hp → Prop}
    (h : Sat (EQ G F H Q) (ES G F H W) (do let x ← evE rp call A τ; let y ← evE rp call B τ; f x y) b)
    (k : ∀ x y v w F2 H2 b2, Stp G F H F2 H2 b2 → Rep G F2 H2 v x.t → Rep G F2 H2 w y.t → Sat (EQ G F2 H2 Q) (ES G F2 H2 W) (f x y) b2 → Rq v w H2) : tE rp call W A σ H fun v H1 => tE rp call W B σ H1 fun w H2 => Rq v w H2 :=
  oneV pre h fun x v F1 H1 b1 st r hx => oneV (pre.next st) hx fun y w F2 H2 b2 st2 r2 hy => k x y v w F2 H2 b2 (st.trans pre.inv st2) (r.lift (st2.lift st.inv st.ok)) r2 hy

/-! ### names, constants -/
theorem se_var {i : Nat} {x : Str} (hN : X.N[i]? = some x) (hv : Vis X.env.scope x) (hd : (x == ("__debug__" : Str)) = false) (hcd : (x == ("__classdict__" : Str)) = false) : SE X rp call W (.Name x pos) (.var i) :=
  PE.imp (pe_var hN hv hd hcd) fun σ H Q ⟨G, F, τ, b, pre, h⟩ => by
    unfold evE at h
    split at h
    · rename_i u e
      obtain ⟨v, h1, h2⟩ := pre.vw.2 i u e
      exact ⟨v, h1, fin_rd h pre.ok pre.inv h2⟩
    · exact h.elim
theorem se_int {i j} : SE X rp call W (.Constant (.int i) j pos) (.cst (.int i)) := PE.imp pe_int fun σ H Q ⟨G, F, τ, b, pre, h⟩ => fin_sc h pre.ok pre.inv rfl (.int i)
theorem se_bl {i j} : SE X rp call W (.Constant (.bool i) j pos) (.cst (.bl i)) := PE.imp pe_bl fun σ H Q ⟨G, F, τ, b, pre, h⟩ => fin_sc h pre.ok pre.inv rfl (.bl i)
theorem se_non {j} : SE X rp call W (.Constant .none j pos) (.cst .non) := PE.imp pe_non fun σ H Q ⟨G, F, τ, b, pre, h⟩ => fin_sc h pre.ok pre.inv rfl .non
theorem se_str {i j} : SE X rp call W (.Constant (.str i) j pos) (.cst (.str i)) := PE.imp pe_str fun σ H Q ⟨G, F, τ, b, pre, h⟩ => fin_sc h pre.ok pre.inv rfl (.str i)

/-! ### operators -/
theorem sat_ite {α : Type} {Qa : α → Nat → Prop} {E : Nat → T → Nat → Prop} {c : Prop} [Decidable c] {r : R α} (h : Sat Qa E (if c then r else .stuck) b) : c ∧ Sat Qa E r b := by
  split at h
  · exact ⟨‹_›, h⟩
  · exact h.elim
theorem sat_iteB {α : Type} {Qa : α → Nat → Prop} {E : Nat → T → Nat → Prop} {c : Bool} {r : R α} (h : Sat Qa E (if c = true then r else .stuck) b) : c = true ∧ Sat Qa E r b := sat_ite h
theorem line_eq : sizeLine = LINE := sizeLine_eq
theorem repIntInv {v : V} {i : Int} (r : Rep G F H v (.int i)) : v = .int i := by cases r; rfl
theorem repLstInv {v : V} {us : List T} (r : Rep G F H v (.lst us)) : ∃ a vs, v = .ref a ∧ F a ∧ H a = some (.lst vs) ∧ Reps G F H vs us := by
  cases r with
  | lst f e r => exact ⟨_, _, rfl, f, e, r⟩
theorem repTupInv {v : V} {us : List T} (r : Rep G F H v (.tup us)) : ∃ a vs, v = .ref a ∧ H a = some (.tup vs) ∧ Reps G F H vs us := by
  cases r with
  | tup e r => exact ⟨_, _, rfl, e, r⟩
theorem Reps.nil_iff {vs : List V} {us : List T} (r : Reps G F H vs us) : us = [] ↔ vs = [] := by
  cases r with
  | nil => simp
  | cons _ _ => simp
theorem lt64 {i : Int} (h : i.natAbs < 2 ^ 64) : -(2 ^ 64) < i ∧ i < 2 ^ 64 := by omega
end
end TM

set_option Elab.async false
set_option linter.all false
set_option maxRecDepth 100000
set_option maxHeartbeats 4000000
namespace TM
open PySem PySem.Spec L2

section
variable {X : Cx} {rp : T → Str} {call : Nat → List T → R Val} {W : XW} {G : Gb} {F : Fz} {H : Hp} {b : Nat} {σ : St} {τ : TM.Env} {Q : VK} {pos : Pos} {ea eb ec : Expr} {A B C : E}

/-! ### data -/
mutual
theorem Rep.dp {K : PySem.W.Frag} : ∀ {v : V} {t : T}, t.isdat = true → Rep G F H v t → Dp K H v t.toD
  | _, _, _, .non => .non
  | _, _, _, .bl b => .bl b
  | _, _, _, .int i => .int i
  | _, _, _, .str x => .str x
  | _, _, h, .tok e => nomatch h
  | _, _, h, .adr => nomatch h
  | _, _, h, .lst f e r => .lst (SqL.of e) (Reps.dp h r)
  | _, _, h, .tup e r => .tup (SqT.of e) (Reps.dp h r)
  | _, _, h, .dct f e r => nomatch h
theorem Reps.dp {K : PySem.W.Frag} : ∀ {vs : List V} {us : List T}, isdats us = true → Reps G F H vs us → DpAll K H vs (toDs us)
  | _, _, _, .nil => .nil
  | _ :: _, u :: us, h, .cons r rs => by
    have h : (u.isdat && isdats us) = true := h
    rw [Bool.and_eq_true] at h
    exact .cons (Rep.dp h.1 r) (Reps.dp h.2 rs)
end
mutual
theorem canLay_of : ∀ {t : T}, t.isdat = true → t.toD.canLay0 = true
  | .non, _ => rfl
  | .bl _, _ => rfl
  | .int _, _ => rfl
  | .str s, h => h
  | .tok _, h => nomatch h
  | .lst xs, h => canLays_of (xs := xs) h
  | .tup xs, h => canLays_of (xs := xs) h
  | .dct _ _, h => nomatch h
theorem canLays_of : ∀ {xs : List T}, isdats xs = true → PyData.canLayAll0 (toDs xs) = true
  | [], _ => rfl
  | x :: xs, h => by
    have h : (x.isdat && isdats xs) = true := h
    rw [Bool.and_eq_true] at h
    show (x.toD.canLay0 && PyData.canLayAll0 (toDs xs)) = true
    rw [canLay_of h.1, canLays_of h.2]; rfl
end

mutual
theorem depth_of : ∀ {t : T}, t.isdat = true → t.toD.depth = t.depth
  | .non, _ => rfl
  | .bl _, _ => rfl
  | .int _, _ => rfl
  | .str s, h => rfl
  | .tok _, h => nomatch h
  | .lst xs, h => congrArg (· + 1) (depths_of (xs := xs) h)
  | .tup xs, h => congrArg (· + 1) (depths_of (xs := xs) h)
  | .dct _ _, h => nomatch h
theorem depths_of : ∀ {xs : List T}, isdats xs = true → PyData.depthAll (toDs xs) = depths xs
  | [], _ => rfl
  | x :: xs, h => by
    have h : (x.isdat && isdats xs) = true := h
    rw [Bool.and_eq_true] at h
    show max x.toD.depth (PyData.depthAll (toDs xs)) = max x.depth (depths xs)
    rw [depth_of h.1, depths_of h.2]
end
theorem shaped_of {t : T} (h : t.eqok = true) : SeqAt.shaped t.toD = true := by
  unfold T.eqok at h
  rw [Bool.and_eq_true] at h
  unfold SeqAt.shaped
  rw [canLay_of h.1, depth_of h.1]
  have := Nat.le_of_ble_eq_true h.2
  simp; omega
theorem strB_eq (a b : Str) : strB a b = (a == b) := by
  unfold strB
  rw [Bool.eq_iff_iff, beq_iff_eq, decide_eq_true_eq]
mutual
theorem eqB_of : ∀ {x y : T}, x.isdat = true → y.isdat = true → x.eqB y = PyData.eqv x.toD y.toD
  | .tok _, _, h, _ => nomatch h
  | .dct _ _, _, h, _ => nomatch h
  | .non, y, _, h => by cases y <;> first | rfl | cases h
  | .bl b, y, _, h => by cases y <;> first | rfl | cases h
  | .int b, y, _, h => by cases y <;> first | rfl | cases h
  | .str a, y, _, h => by
    cases y
    case str b => show strB a b = PyData.eqv (.str a) (.str b); simp only [PyData.eqv]; exact strB_eq a b
    all_goals first | rfl | cases h
  | .lst xs, y, h, h' => by
    cases y
    case lst ys => show eqBs xs ys = PyData.eqv (.list (toDs xs)) (.list (toDs ys)); simp only [PyData.eqv]; exact eqBs_of (xs := xs) (ys := ys) h h'
    all_goals first | rfl | cases h'
  | .tup xs, y, h, h' => by
    cases y
    case tup ys => show eqBs xs ys = PyData.eqv (.tuple (toDs xs)) (.tuple (toDs ys)); simp only [PyData.eqv]; exact eqBs_of (xs := xs) (ys := ys) h h'
    all_goals first | rfl | cases h'
theorem eqBs_of : ∀ {xs ys : List T}, isdats xs = true → isdats ys = true → eqBs xs ys = PyData.eqvAll (toDs xs) (toDs ys)
  | [], [], _, _ => by simp [eqBs, toDs, PyData.eqvAll]
  | [], _ :: _, _, _ => by simp [eqBs, toDs, PyData.eqvAll]
  | _ :: _, [], _, _ => by simp [eqBs, toDs, PyData.eqvAll]
  | x :: xs, y :: ys, h, h' => by
    have h : (x.isdat && isdats xs) = true := h
    have h' : (y.isdat && isdats ys) = true := h'
    rw [Bool.and_eq_true] at h h'
    show (x.eqB y && eqBs xs ys) = PyData.eqvAll (x.toD :: toDs xs) (y.toD :: toDs ys)
    simp only [PyData.eqvAll]
    rw [eqB_of h.1 h'.1, eqBs_of h.2 h'.2]
end


/-! ### arithmetic -/
theorem se_add (ha : SE X rp call W ea A) (hb : SE X rp call W eb B) : SE X rp call W (.BinOp ea .Add eb pos) (.bin .add A B) := by
  refine PE.imp (pe_op (op_add.or (op_cat.or op_catA)) ha hb) fun σ H Q ⟨G, F, τ, b, pre, h⟩ => ?_
  refine twoV pre h fun ⟨x, lx⟩ ⟨y, ly⟩ v w F2 H2 b2 st r1 r2 hq => ?_
  cases x
  case int i =>
    cases y
    case int j =>
      cases repIntInv r1
      cases repIntInv r2
      exact .inl ⟨_, _, rfl, rfl, fin_sc hq st.ok st.inv rfl (.int _)⟩
    all_goals exact hq.elim
  case lst xs =>
    cases y
    case lst ys =>
      obtain ⟨hl, hq⟩ := sat_ite hq
      obtain ⟨a, vs, rfl, f1, e1, q1⟩ := repLstInv r1
      obtain ⟨c, ws, rfl, f2, e2, q2⟩ := repLstInv r2
      have := q1.length; have := q2.length
      exact .inr (.inl ⟨_, _, _, _, rfl, rfl, e1, e2, by rw [line_eq]; omega, fin_lst hq st.ok st.inv (q1.append q2)⟩)
    all_goals exact hq.elim
  case tup xs =>
    cases y
    case tup ys =>
      obtain ⟨hl, hq⟩ := sat_ite hq
      obtain ⟨a, vs, rfl, e1, q1⟩ := repTupInv r1
      obtain ⟨c, ws, rfl, e2, q2⟩ := repTupInv r2
      have := q1.length; have := q2.length
      refine .inr (.inr ⟨_, _, _, _, rfl, rfl, SqT.of e1, SqT.of e2, by rw [line_eq]; omega, fun hn => ?_, fun _ hn => ?_, fun _ _ => fin_tup hq st.ok st.inv (q1.append q2)⟩)
      · have hn := q1.nil_iff.2 hn
        subst hn
        exact fin_rd hq st.ok st.inv r2
      · have hn := q2.nil_iff.2 hn
        subst hn
        rw [List.append_nil] at hq
        exact fin_rd hq st.ok st.inv r1
    all_goals exact hq.elim
  all_goals exact hq.elim
theorem se_sub (ha : SE X rp call W ea A) (hb : SE X rp call W eb B) : SE X rp call W (.BinOp ea .Sub eb pos) (.bin .sub A B) := by
  refine PE.imp (pe_op op_sub ha hb) fun σ H Q ⟨G, F, τ, b, pre, h⟩ => ?_
  refine twoV pre h fun ⟨x, lx⟩ ⟨y, ly⟩ v w F2 H2 b2 st r1 r2 hq => ?_
  cases x
  case int i =>
    cases y
    case int j =>
      cases repIntInv r1
      cases repIntInv r2
      exact ⟨_, _, rfl, rfl, fin_sc hq st.ok st.inv rfl (.int _)⟩
    all_goals exact hq.elim
  all_goals exact hq.elim
theorem se_mul (ha : SE X rp call W ea A) (hb : SE X rp call W eb B) : SE X rp call W (.BinOp ea .Mult eb pos) (.bin .mul A B) := by
  refine PE.imp (pe_op (op_mul.or op_rep) ha hb) fun σ H Q ⟨G, F, τ, b, pre, h⟩ => ?_
  refine twoV pre h fun ⟨x, lx⟩ ⟨y, ly⟩ v w F2 H2 b2 st r1 r2 hq => ?_
  cases x
  case int i =>
    cases y
    case int j =>
      obtain ⟨hl, hq⟩ := sat_iteB hq
      cases repIntInv r1
      cases repIntInv r2
      refine .inl ⟨_, _, rfl, rfl, ?_, fin_sc hq st.ok st.inv rfl (.int _)⟩
      rw [Bool.or_eq_true, decide_eq_true_eq, decide_eq_true_eq] at hl
      rcases hl with hl | hl
      · exact .inl (lt64 hl)
      · exact .inr (lt64 hl)
    all_goals exact hq.elim
  case lst xs =>
    cases y
    case int j =>
      obtain ⟨hlz, hq⟩ := sat_iteB hq
      rw [Bool.and_eq_true, decide_eq_true_eq, decide_eq_true_eq] at hlz
      obtain ⟨hl, hz⟩ := hlz
      obtain ⟨a, vs, rfl, f1, e1, q1⟩ := repLstInv r1
      cases repIntInv r2
      have hlen := q1.length
      refine .inr ⟨_, _, _, rfl, rfl, e1, by omega, by omega, by rw [line_eq, hlen]; exact hz, ?_⟩
      have q : ∀ n : Nat, Reps G F2 H2 (List.replicate n vs).flatten (List.replicate n xs).flatten := fun n => by
        induction n with
        | zero => exact .nil
        | succ n ih => rw [List.replicate_succ, List.replicate_succ, List.flatten_cons, List.flatten_cons]; exact q1.append ih
      have hlv : nomuts xs = true → ∀ n : Nat, nomuts (List.replicate n xs).flatten = true := fun hx n => by
        have ap : ∀ a b : List T, nomuts a = true → nomuts b = true → nomuts (a ++ b) = true := fun a b ha hb => by
          induction a with
          | nil => exact hb
          | cons y ys ih =>
            have ha : (y.nomut && nomuts ys) = true := ha
            rw [Bool.and_eq_true] at ha
            show (y.nomut && nomuts (ys ++ b)) = true
            rw [ha.1, ih ha.2]; rfl
        induction n with
        | zero => rfl
        | succ n ih => rw [List.replicate_succ, List.flatten_cons]; exact ap _ _ hx ih
      intro p hp
      have rr := (q j.toNat).lift (F' := F2) (H' := upd H2 p (.lst (List.replicate j.toNat vs).flatten)) ⟨fun _ f => f, fun a o e _ => by rw [upd_ne (ne_of_none e hp)]; exact e⟩
      refine hq _ _ F2 [p] (stp_new st.ok st.inv hp) ?_ (own_one st.ok hp)
      unfold lvl
      split
      · rename_i hx
        exact RepD.lst upd_same (repDs_of_nomuts (hlv hx _) rr)
      · exact ⟨p, rfl, rfl, .inl ⟨_, _, rfl, upd_same, rr⟩⟩
    all_goals exact hq.elim
  all_goals exact hq.elim
theorem se_fdiv (ha : SE X rp call W ea A) (hb : SE X rp call W eb B) : SE X rp call W (.BinOp ea .FloorDiv eb pos) (.bin .fdiv A B) := by
  refine PE.imp (pe_op op_fdiv ha hb) fun σ H Q ⟨G, F, τ, b, pre, h⟩ => ?_
  refine twoV pre h fun ⟨x, lx⟩ ⟨y, ly⟩ v w F2 H2 b2 st r1 r2 hq => ?_
  cases x
  case int i =>
    cases y
    case int j =>
      obtain ⟨hl, hq⟩ := sat_ite hq
      cases repIntInv r1
      cases repIntInv r2
      exact ⟨_, _, rfl, rfl, hl, fin_sc hq st.ok st.inv rfl (.int _)⟩
    all_goals exact hq.elim
  all_goals exact hq.elim
theorem se_mod (ha : SE X rp call W ea A) (hb : SE X rp call W eb B) : SE X rp call W (.BinOp ea .Mod eb pos) (.bin .mod A B) := by
  refine PE.imp (pe_op op_mod ha hb) fun σ H Q ⟨G, F, τ, b, pre, h⟩ => ?_
  refine twoV pre h fun ⟨x, lx⟩ ⟨y, ly⟩ v w F2 H2 b2 st r1 r2 hq => ?_
  cases x
  case int i =>
    cases y
    case int j =>
      obtain ⟨hl, hq⟩ := sat_ite hq
      cases repIntInv r1
      cases repIntInv r2
      exact ⟨_, _, rfl, rfl, hl, fin_sc hq st.ok st.inv rfl (.int _)⟩
    all_goals exact hq.elim
  all_goals exact hq.elim
theorem se_pow (ha : SE X rp call W ea A) (hb : SE X rp call W eb B) : SE X rp call W (.BinOp ea .Pow eb pos) (.bin .pow A B) := by
  refine PE.imp (pe_op op_pow ha hb) fun σ H Q ⟨G, F, τ, b, pre, h⟩ => ?_
  refine twoV pre h fun ⟨x, lx⟩ ⟨y, ly⟩ v w F2 H2 b2 st r1 r2 hq => ?_
  cases x
  case int i =>
    cases y
    case int j =>
      obtain ⟨hl, hq⟩ := sat_ite hq
      cases repIntInv r1
      cases repIntInv r2
      exact ⟨_, _, rfl, rfl, hl, fin_sc hq st.ok st.inv rfl (.int _)⟩
    all_goals exact hq.elim
  all_goals exact hq.elim
theorem se_neg (ha : SE X rp call W ea A) : SE X rp call W (.UnaryOp .USub ea pos) (.neg A) := by
  refine PE.imp (pe_un un_neg ha) fun σ H Q ⟨G, F, τ, b, pre, h⟩ => ?_
  refine oneV pre h fun ⟨x, lx⟩ v F2 H2 b2 st r1 hq => ?_
  cases x
  case int i =>
    cases repIntInv r1
    exact ⟨_, rfl, fin_sc hq st.ok st.inv rfl (.int _)⟩
  all_goals exact hq.elim

/-! ### truth -/
theorem tru_of {t : T} {v : V} {α : Type} {f : Bool → R α} {Qa : α → Nat → Prop} {E : Nat → T → Nat → Prop} (r : Rep G F H v t) (h : Sat Qa E (do let c ← truthy t; f c) b) : ∃ k, TruV X.K v H k ∧ Sat Qa E (f k) b := by
  cases r with
  | non => exact ⟨_, rfl, h⟩
  | bl c => exact ⟨_, rfl, h⟩
  | int i => exact ⟨_, rfl, h⟩
  | str x => exact h.elim
  | tok e => exact h.elim
  | adr => exact h.elim
  | lst f e r => exact ⟨_, .inl ⟨_, SqL.of e, rfl⟩, by cases r <;> exact h⟩
  | tup e r => exact ⟨_, .inr (.inl ⟨_, SqT.of e, rfl⟩), by cases r <;> exact h⟩
  | dct f e r => exact h.elim
theorem se_not (ha : SE X rp call W ea A) : SE X rp call W (.UnaryOp .Not ea pos) (.not A) := by
  refine PE.imp (pe_notT ha) fun σ H Q ⟨G, F, τ, b, pre, h⟩ => ?_
  refine oneV pre h fun ⟨x, lx⟩ v F2 H2 b2 st r1 hq => ?_
  obtain ⟨k, hk, hq⟩ := tru_of (X := X) r1 hq
  exact ⟨k, hk, fin_sc hq st.ok st.inv rfl (.bl _)⟩
theorem se_and {rest : List Expr} (ha : SE X rp call W ea A) (hb : SE X rp call W (.BoolOp .And (eb :: rest) pos) B) : SE X rp call W (.BoolOp .And (ea :: eb :: rest) pos) (.and A B) := by
  refine PE.imp (pe_andT ha hb) fun σ H Q ⟨G, F, τ, b, pre, h⟩ => ?_
  refine ⟨G, F, τ, b, pre, ((sat_bind _ _).1 h).imp (fun x b1 hx v H1 F1 fp st r o => ?_) fun _ _ _ z => z⟩
  obtain ⟨k, hk, hx⟩ := tru_of (X := X) r.share hx
  refine ⟨k, hk, ?_⟩
  cases k
  · exact hx v H1 F1 fp st r o
  · exact ⟨G, F1, τ, b1, pre.next st, sat_next pre.inv st hx⟩
theorem se_or {rest : List Expr} (ha : SE X rp call W ea A) (hb : SE X rp call W (.BoolOp .Or (eb :: rest) pos) B) : SE X rp call W (.BoolOp .Or (ea :: eb :: rest) pos) (.or A B) := by
  refine PE.imp (pe_orT ha hb) fun σ H Q ⟨G, F, τ, b, pre, h⟩ => ?_
  refine ⟨G, F, τ, b, pre, ((sat_bind _ _).1 h).imp (fun x b1 hx v H1 F1 fp st r o => ?_) fun _ _ _ z => z⟩
  obtain ⟨k, hk, hx⟩ := tru_of (X := X) r.share hx
  refine ⟨k, hk, ?_⟩
  cases k
  · exact ⟨G, F1, τ, b1, pre.next st, sat_next pre.inv st hx⟩
  · exact hx v H1 F1 fp st r o
theorem se_one {op} (ha : SE X rp call W ea A) : SE X rp call W (.BoolOp op [ea] pos) A := pe_one ha

/-! ### tests -/
theorem tc_of {Qb : Bool → Hp → Prop} (h : tC rp call W A σ H Qb) : tE rp call W A σ H fun x H1 => ∃ k, TruV X.K x H1 k ∧ Qb k H1 := by
  obtain ⟨G, F, τ, b, pre, h⟩ := h
  refine one pre h (fun _ _ _ z => z) fun x v F1 H1 b1 st r hx => ?_
  have hx : Sat _ _ (do let c ← truthy x.t; R.ok c) b1 := (sat_bind _ _).2 hx
  obtain ⟨k, hk, hx⟩ := tru_of (X := X) r hx
  exact ⟨k, hk, hx H1 F1 st⟩
theorem sc_val (ha : SE X rp call W ea A) (he : ∀ whole, isTrue ea X.env whole = (do let v ← whole; standAt ea.pos; holding [v] (PySem.truthy v))) : SC X rp call W ea A :=
  PT.imp (pt_truth ha he) fun σ H Qb h => tc_of (X := X) h
theorem bind_assoc {α β γ : Type} (r : R α) (f : α → R β) (g : β → R γ) : (r >>= f >>= g) = (r >>= fun x => f x >>= g) := by
  show (r.bind f).bind g = r.bind fun x => (f x).bind g
  induction r with
  | ok a => rfl
  | draw n k ih => show R.draw n _ = R.draw n _; congr 1; funext i; exact ih i
  | exc c v => rfl
  | stuck => rfl

end
end TM

set_option Elab.async false
set_option linter.all false
set_option maxRecDepth 100000
set_option maxHeartbeats 4000000
namespace TM
open PySem PySem.Spec L2

def opOf : COp → CmpOp
  | .eq => .Eq | .ne => .NotEq | .lt => .Lt | .le => .LtE | .gt => .Gt | .ge => .GtE
  | .is => .Is | .nis => .IsNot | .isin => .In | .nisin => .NotIn

section
variable {X : Cx} {rp : T → Str} {call : Nat → List T → R Val} {W : XW} {G : Gb} {F : Fz} {H : Hp} {b : Nat} {σ : St} {τ : TM.Env} {Q : VK} {pos : Pos} {ea eb ec : Expr} {A B C : E}

theorem sat_bindB {α β : Type} {Qa : β → Nat → Prop} {E : Nat → T → Nat → Prop} {c : Prop} [Decidable c] {r : R α} {f : α → R β} (h : Sat Qa E ((if c then r else .stuck) >>= f) b) : c ∧ Sat Qa E (r >>= f) b := by
  split at h
  · exact ⟨‹_›, h⟩
  · exact h.elim

/-! ### dicts: keys -/
theorem flat_key {v : V} {t : T} (r : Rep G F H v t) (h : flatT t = true) : ∃ k : Key, v = kV k ∧ t = keyT k := by
  cases r with
  | int i => exact ⟨.inl i, rfl, rfl⟩
  | str x => exact ⟨.inr x, rfl, rfl⟩
  | _ => cases h
theorem keyT_eqB (j k : Key) : (keyT j).eqB (keyT k) = decide (j = k) := by
  cases j <;> cases k
  · rename_i a b
    show (a == b) = decide ((Sum.inl a : Key) = Sum.inl b)
    rw [key_ll]
  · rw [key_lr]; rfl
  · rw [key_rl]; rfl
  · rename_i a b
    rw [key_rr]; rfl
theorem lookT_valV {k : Key} : ∀ {kvs : List (Key × V)} {us : List T}, Reps G F H (kvs.map (·.2)) us → (∀ t, lookT (keyT k) (kvs.map fun p => keyT p.1) us = some t → ∃ v, valV kvs k = some v ∧ Rep G F H v t) ∧ (lookT (keyT k) (kvs.map fun p => keyT p.1) us = none → valV kvs k = none)
  | [], _, .nil => ⟨fun t h => (nomatch h), fun _ => rfl⟩
  | (j, v) :: kvs, u :: us, .cons r rs => by
    obtain ⟨h1, h2⟩ := lookT_valV (k := k) rs
    have e : lookT (keyT k) (((j, v) :: kvs).map fun p => keyT p.1) (u :: us) = if (keyT j).eqB (keyT k) then some u else lookT (keyT k) (kvs.map fun p => keyT p.1) us := rfl
    rw [e, keyT_eqB]
    by_cases hj : j = k
    · have : valV ((j, v) :: kvs) k = some v := by unfold valV; rw [List.find?_cons]; simp [hj]
      rw [this]
      simp only [hj, decide_true, if_true]
      exact ⟨fun t e => ⟨v, rfl, by cases e; exact r⟩, fun e => (nomatch e)⟩
    · have : valV ((j, v) :: kvs) k = valV kvs k := by unfold valV; rw [List.find?_cons]; simp [hj]
      rw [this]
      simp only [hj, decide_false, Bool.false_eq_true, if_false]
      exact ⟨h1, h2⟩
theorem inB_valV {k : Key} : ∀ {kvs : List (Key × V)}, inB (keyT k) (kvs.map fun p => keyT p.1) = (valV kvs k).isSome
  | [] => rfl
  | (j, v) :: kvs => by
    have ih := inB_valV (k := k) (kvs := kvs)
    show ((keyT j).eqB (keyT k) || inB (keyT k) (kvs.map fun p => keyT p.1)) = _
    rw [keyT_eqB, ih]
    by_cases hj : j = k
    · have : valV ((j, v) :: kvs) k = some v := by unfold valV; rw [List.find?_cons]; simp [hj]
      rw [this]; simp [hj]
    · have : valV ((j, v) :: kvs) k = valV kvs k := by unfold valV; rw [List.find?_cons]; simp [hj]
      rw [this]; simp [hj]

/-! ### comparisons by values -/
def rDIn (neg : Bool) : R2 := fun x y H Q => ∃ a o, y = .ref a ∧ DGet H a x o ∧ Q (.bl (if neg then !o.isSome else o.isSome)) H
theorem op_dIn (hu : X.A.units + 1 < cLine) : OpR X (compareOp .In) (rDIn false) := by
  intro pins s σ H x y v u Q I rx ry h
  obtain ⟨a, o, rfl, g, q⟩ := h
  cases ry
  exact d_in hu I g rx fun s' I' => ⟨.bl _, _, I', rfl, q⟩
theorem op_dNotIn (hu : X.A.units + 1 < cLine) : OpR X (compareOp .NotIn) (rDIn true) := by
  intro pins s σ H x y v u Q I rx ry h
  obtain ⟨a, o, rfl, g, q⟩ := h
  cases ry
  exact d_notIn hu I g rx fun s' I' => ⟨.bl _, _, I', rfl, q⟩
theorem inB_any {x : T} (hx : x.isdat = true) : ∀ {ys : List T}, isdats ys = true → inB x ys = (toDs ys).any fun z => PyData.eqv z x.toD
  | [], _ => rfl
  | y :: ys, h => by
    have h : (y.isdat && isdats ys) = true := h
    rw [Bool.and_eq_true] at h
    show (y.eqB x || inB x ys) = (PyData.eqv y.toD x.toD || (toDs ys).any fun z => PyData.eqv z x.toD)
    rw [eqB_of h.1 hx, inB_any hx h.2]
theorem eqok_dat {t : T} (h : t.eqok = true) : t.isdat = true := by
  unfold T.eqok at h
  rw [Bool.and_eq_true] at h
  exact h.1
/-- what an operator's rule asks is there where the trees' comparison ends -/
def CmpOk (o : COp) (r : R2) : Prop :=
  ∀ {β : Type} (G : Gb) (F : Fz) (H : Hp) (b : Nat) (x y : T) (v w : V) (Q : VK) (Qa : β → Nat → Prop) (E : Nat → T → Nat → Prop) (f : Bool → R β), Rep G F H v x → Rep G F H w y → Sat Qa E (do let c ← cmpT o x y; f c) b → (∀ c, Sat Qa E (f c) b → Q (.bl c) H) → r v w H Q
theorem cmp_int {o : COp} {p : Int → Int → Bool} (hi : ∀ i j, cmpT o (.int i) (.int j) = .ok (p i j)) (hs : ∀ x y, (∀ i j, ¬ (x = .int i ∧ y = .int j)) → cmpT o x y = .stuck) : CmpOk o (rI0 fun i j => .bl (p i j)) := by
  intro β G F H b x y v w Q Qa E f r1 r2 h k
  by_cases q : ∃ i j, x = .int i ∧ y = .int j
  · obtain ⟨i, j, rfl, rfl⟩ := q
    rw [hi] at h
    cases repIntInv r1
    cases repIntInv r2
    exact ⟨_, _, rfl, rfl, k _ h⟩
  · rw [hs x y fun i j z => q ⟨i, j, z⟩] at h
    exact h.elim
mutual
theorem alike_toD : ∀ {a b : T}, a.alike b = true → PySem.W.alike a.toD b.toD = true
  | .int _, .int _, _ => rfl
  | .str _, .str _, _ => rfl
  | .lst xs, .lst ys, h => alikes_toD (xs := xs) (ys := ys) h
  | .tup xs, .tup ys, h => alikes_toD (xs := xs) (ys := ys) h
theorem alikes_toD : ∀ {xs ys : List T}, alikes xs ys = true → PySem.W.alikeAll (toDs xs) (toDs ys) = true
  | [], [], _ => rfl
  | [], _ :: _, _ => rfl
  | _ :: _, [], _ => rfl
  | x :: xs, y :: ys, h => by
    have h : (x.alike y && alikes xs ys) = true := h
    rw [Bool.and_eq_true] at h
    show (PySem.W.alike x.toD y.toD && PySem.W.alikeAll (toDs xs) (toDs ys)) = true
    rw [alike_toD h.1, alikes_toD h.2]; rfl
end
/-- a < b, a > b of data -/
def rLtD (K : PySem.W.Frag) : R2 := fun x y H Q => ∃ d e, Dp K H x d ∧ Dp K H y e ∧ PySem.W.alike d e = true ∧ d ≠ .none ∧ d.depth ≤ 62 ∧ Q (.bl (PySem.W.dataLt d e)) H
def rGtD (K : PySem.W.Frag) : R2 := fun x y H Q => ∃ d e, Dp K H x d ∧ Dp K H y e ∧ PySem.W.alike d e = true ∧ d ≠ .none ∧ d.depth ≤ 62 ∧ Q (.bl (PySem.W.dataLt e d)) H
theorem op_ltD (hu : X.A.units + 64 < cLine) : OpR X (compareOp .Lt) (rLtD X.K) := by
  intro pins s σ H x y v u Q I rx ry h
  obtain ⟨d, e, hd, he, ha, hn, hp, q⟩ := h
  obtain ⟨as, r1⟩ := Dp.reads I d x v hd rx
  obtain ⟨bs, r2⟩ := Dp.reads I e y u he ry
  exact PySem.W.lt_data r1 r2 ha hn (by have := Nat.min_le_left d.depth e.depth; omega) ⟨.bl _, H, I, rfl, q⟩
theorem op_gtD (hu : X.A.units + 64 < cLine) : OpR X (compareOp .Gt) (rGtD X.K) := by
  intro pins s σ H x y v u Q I rx ry h
  obtain ⟨d, e, hd, he, ha, hn, hp, q⟩ := h
  obtain ⟨as, r1⟩ := Dp.reads I d x v hd rx
  obtain ⟨bs, r2⟩ := Dp.reads I e y u he ry
  exact PySem.W.gt_data r1 r2 ha hn (by have := Nat.min_le_left d.depth e.depth; omega) ⟨.bl _, H, I, rfl, q⟩
theorem ltok_of {x y : T} (h : ltok x y = true) : x.isdat = true ∧ y.isdat = true ∧ PySem.W.alike x.toD y.toD = true ∧ x.toD.depth ≤ 62 := by
  unfold ltok at h
  rw [Bool.and_eq_true, Bool.and_eq_true] at h
  have h1 := eqok_dat h.1
  refine ⟨h1, eqok_dat h.2.1, alike_toD h.2.2, ?_⟩
  have h2 := h.1
  unfold T.eqok at h2
  rw [Bool.and_eq_true] at h2
  rw [depth_of h1]
  have := Nat.le_of_ble_eq_true h2.2
  omega
theorem cmp_lt : CmpOk .lt (fun x y H Q => rI0 (fun i j => .bl (decide (i < j))) x y H Q ∨ rLtD X.K x y H Q) := by
  intro β G F H b x y v w Q Qa E f r1 r2 h k
  have key : ∀ {x y : T}, Rep G F H v x → Rep G F H w y → x.toD ≠ .none → cmpT .lt x y = (if ltok x y = true then .ok (ltT x y) else .stuck) → Sat Qa E (cmpT .lt x y >>= f) b → rLtD X.K v w H Q := fun {x y} r1 r2 hn e h => by
    rw [e] at h
    obtain ⟨hc, h⟩ := sat_bindB h
    obtain ⟨h1, h2, h3, h4⟩ := ltok_of hc
    exact ⟨_, _, r1.dp h1, r2.dp h2, h3, hn, h4, k _ h⟩
  cases x <;> cases y <;> first
    | exact h.elim
    | (cases repIntInv r1; cases repIntInv r2; exact .inl ⟨_, _, rfl, rfl, k _ h⟩)
    | exact .inr (key r1 r2 (fun z => nomatch z) rfl h)
theorem cmp_le : CmpOk .le (rI0 fun i j => .bl (decide (i ≤ j))) := cmp_int (fun _ _ => rfl) fun x y h => by cases x <;> cases y <;> first | rfl | exact absurd ⟨rfl, rfl⟩ (h _ _)
theorem cmp_gt : CmpOk .gt (fun x y H Q => rI0 (fun i j => .bl (decide (j < i))) x y H Q ∨ rGtD X.K x y H Q) := by
  intro β G F H b x y v w Q Qa E f r1 r2 h k
  have key : ∀ {x y : T}, Rep G F H v x → Rep G F H w y → x.toD ≠ .none → cmpT .gt x y = (if ltok x y = true then .ok (ltT y x) else .stuck) → Sat Qa E (cmpT .gt x y >>= f) b → rGtD X.K v w H Q := fun {x y} r1 r2 hn e h => by
    rw [e] at h
    obtain ⟨hc, h⟩ := sat_bindB h
    obtain ⟨h1, h2, h3, h4⟩ := ltok_of hc
    exact ⟨_, _, r1.dp h1, r2.dp h2, h3, hn, h4, k _ h⟩
  cases x <;> cases y <;> first
    | exact h.elim
    | (cases repIntInv r1; cases repIntInv r2; exact .inl ⟨_, _, rfl, rfl, k _ h⟩)
    | exact .inr (key r1 r2 (fun z => nomatch z) rfl h)
theorem cmp_ge : CmpOk .ge (rI0 fun i j => .bl (decide (j ≤ i))) := cmp_int (fun _ _ => rfl) fun x y h => by cases x <;> cases y <;> first | rfl | exact absurd ⟨rfl, rfl⟩ (h _ _)
theorem cmp_eq : CmpOk .eq (rEqD X.K) := by
  intro β G F H b x y v w Q Qa E f r1 r2 h k
  obtain ⟨hc, h⟩ := sat_bindB (show Sat Qa E ((if (x.eqok && y.eqok) = true then R.ok (x.eqB y) else R.stuck) >>= f) b from h)
  rw [Bool.and_eq_true] at hc
  have := k _ h
  rw [eqB_of (eqok_dat hc.1) (eqok_dat hc.2)] at this
  exact ⟨_, _, r1.dp (eqok_dat hc.1), r2.dp (eqok_dat hc.2), shaped_of hc.1, shaped_of hc.2, this⟩
theorem cmp_ne : CmpOk .ne (rNeD X.K) := by
  intro β G F H b x y v w Q Qa E f r1 r2 h k
  have h : Sat Qa E ((if (x.eqok && y.eqok) = true then R.ok (x.eqB y) else R.stuck) >>= fun r => f !r) b := by
    have e : (do let c ← cmpT .ne x y; f c) = ((if (x.eqok && y.eqok) = true then R.ok (x.eqB y) else R.stuck) >>= fun r => f !r) := by
      show ((eqT x y >>= fun r => R.ok !r) >>= f) = _
      rw [bind_assoc]; rfl
    rw [← e]; exact h
  obtain ⟨hc, h⟩ := sat_bindB h
  rw [Bool.and_eq_true] at hc
  have := k _ h
  rw [eqB_of (eqok_dat hc.1) (eqok_dat hc.2)] at this
  exact ⟨_, _, r1.dp (eqok_dat hc.1), r2.dp (eqok_dat hc.2), shaped_of hc.1, shaped_of hc.2, this⟩
theorem rep_non {v : V} {t : T} (r : Rep G F H v t) : t.isN = decide (v = .non) := by
  cases r <;> first | rfl | (symm; exact decide_eq_false (fun e => nomatch e))
theorem cmp_is : CmpOk .is (fun x y H Q => y = .non ∧ Q (.bl (decide (x = .non))) H) := by
  intro β G F H b x y v w Q Qa E f r1 r2 h k
  cases r2 with
  | non =>
    refine ⟨rfl, ?_⟩
    have h : Sat Qa E (f x.isN) b := by cases x <;> exact h
    have := k _ h
    rw [rep_non r1] at this
    exact this
  | _ => exact h.elim
theorem cmp_nis : CmpOk .nis (fun x y H Q => y = .non ∧ Q (.bl (!decide (x = .non))) H) := by
  intro β G F H b x y v w Q Qa E f r1 r2 h k
  cases r2 with
  | non =>
    refine ⟨rfl, ?_⟩
    have h : Sat Qa E (f !x.isN) b := by cases x <;> exact h
    have := k _ h
    rw [rep_non r1] at this
    exact this
  | _ => exact h.elim
def rInT (K : PySem.W.Frag) : R2 := fun x y H Q => ∃ d ds, Dp K H x d ∧ Dp K H y (.tuple ds) ∧ SeqAt.shaped d = true ∧ SeqAt.shaped (.tuple ds) = true ∧ Q (.bl (ds.any fun z => PyData.eqv z d)) H
def rNotInT (K : PySem.W.Frag) : R2 := fun x y H Q => ∃ d ds, Dp K H x d ∧ Dp K H y (.tuple ds) ∧ SeqAt.shaped d = true ∧ SeqAt.shaped (.tuple ds) = true ∧ Q (.bl (!ds.any fun z => PyData.eqv z d)) H
theorem op_inT (hu : X.A.units + 65 < cLine) : OpR X (compareOp .In) (rInT X.K) := by
  intro pins s σ H x y v u Q I rx ry h
  obtain ⟨d, ds, hd, he, sd, se, q⟩ := h
  obtain ⟨as, r1⟩ := Dp.reads I d x v hd rx
  obtain ⟨bs, r2⟩ := Dp.reads I (.tuple ds) y u he ry
  exact SeqAt.in_tuple_reads r2 r1 (SeqAt.canLay_of_shaped se) (SeqAt.canLay_of_shaped sd) (PyProof.Rows.room_in_shaped sd hu) ⟨.bl _, H, I, rfl, q⟩
theorem op_notInT (hu : X.A.units + 65 < cLine) : OpR X (compareOp .NotIn) (rNotInT X.K) := by
  intro pins s σ H x y v u Q I rx ry h
  obtain ⟨d, ds, hd, he, sd, se, q⟩ := h
  obtain ⟨as, r1⟩ := Dp.reads I d x v hd rx
  obtain ⟨bs, r2⟩ := Dp.reads I (.tuple ds) y u he ry
  exact SeqAt.notIn_tuple_reads r2 r1 (SeqAt.canLay_of_shaped se) (SeqAt.canLay_of_shaped sd) (PyProof.Rows.room_in_shaped sd hu) ⟨.bl _, H, I, rfl, q⟩
theorem cmp_in : CmpOk .isin (fun x y H Q => (rInD X.K x y H Q ∨ rDIn false x y H Q) ∨ rInT X.K x y H Q) := by
  intro β G F H b x y v w Q Qa E f r1 r2 h k
  cases y
  case lst ys =>
    obtain ⟨hc, h⟩ := sat_bindB (show Sat Qa E ((if (x.eqok && (T.lst ys).eqok) = true then R.ok (inB x ys) else R.stuck) >>= f) b from h)
    rw [Bool.and_eq_true] at hc
    have := k _ h
    rw [inB_any (eqok_dat hc.1) (eqok_dat hc.2)] at this
    exact .inl (.inl ⟨_, _, r1.dp (eqok_dat hc.1), r2.dp (eqok_dat hc.2), shaped_of hc.1, shaped_of hc.2, this⟩)
  case dct ks vs =>
    obtain ⟨hc, h⟩ := sat_bindB (show Sat Qa E ((if (flatT x && ks.all flatT) = true then R.ok (inB x ks) else R.stuck) >>= f) b from h)
    rw [Bool.and_eq_true] at hc
    obtain ⟨k', rfl, rfl⟩ := flat_key r1 hc.1
    have := k _ h
    cases r2 with
    | dct fa e r =>
      rw [inB_valV] at this
      exact .inl (.inr ⟨_, _, rfl, DGet.k e, this⟩)
  case tup ys =>
    obtain ⟨hc, h⟩ := sat_bindB (show Sat Qa E ((if (x.eqok && (T.tup ys).eqok) = true then R.ok (inB x ys) else R.stuck) >>= f) b from h)
    rw [Bool.and_eq_true] at hc
    have := k _ h
    rw [inB_any (eqok_dat hc.1) (eqok_dat hc.2)] at this
    exact .inr ⟨_, _, r1.dp (eqok_dat hc.1), r2.dp (eqok_dat hc.2), shaped_of hc.1, shaped_of hc.2, this⟩
  all_goals exact h.elim
theorem cmp_nin : CmpOk .nisin (fun x y H Q => (rNotInD X.K x y H Q ∨ rDIn true x y H Q) ∨ rNotInT X.K x y H Q) := by
  intro β G F H b x y v w Q Qa E f r1 r2 h k
  cases y
  case lst ys =>
    obtain ⟨hc, h⟩ := sat_bindB (show Sat Qa E ((if (x.eqok && (T.lst ys).eqok) = true then R.ok !(inB x ys) else R.stuck) >>= f) b from h)
    rw [Bool.and_eq_true] at hc
    have := k _ h
    rw [inB_any (eqok_dat hc.1) (eqok_dat hc.2)] at this
    exact .inl (.inl ⟨_, _, r1.dp (eqok_dat hc.1), r2.dp (eqok_dat hc.2), shaped_of hc.1, shaped_of hc.2, this⟩)
  case dct ks vs =>
    obtain ⟨hc, h⟩ := sat_bindB (show Sat Qa E ((if (flatT x && ks.all flatT) = true then R.ok !(inB x ks) else R.stuck) >>= f) b from h)
    rw [Bool.and_eq_true] at hc
    obtain ⟨k', rfl, rfl⟩ := flat_key r1 hc.1
    have := k _ h
    cases r2 with
    | dct fa e r =>
      rw [inB_valV] at this
      exact .inl (.inr ⟨_, _, rfl, DGet.k e, this⟩)
  case tup ys =>
    obtain ⟨hc, h⟩ := sat_bindB (show Sat Qa E ((if (x.eqok && (T.tup ys).eqok) = true then R.ok !(inB x ys) else R.stuck) >>= f) b from h)
    rw [Bool.and_eq_true] at hc
    have := k _ h
    rw [inB_any (eqok_dat hc.1) (eqok_dat hc.2)] at this
    exact .inr ⟨_, _, r1.dp (eqok_dat hc.1), r2.dp (eqok_dat hc.2), shaped_of hc.1, shaped_of hc.2, this⟩
  all_goals exact h.elim
theorem cmp_all (hu : X.A.units + 65 < cLine) (o : COp) : ∃ r, OpR X (compareOp (opOf o)) r ∧ CmpOk o r := by
  have hu1 : X.A.units + 1 < cLine := by omega
  have hu2 : X.A.units + 64 < cLine := by omega
  cases o
  · exact ⟨_, op_eqD hu2, cmp_eq⟩
  · exact ⟨_, op_neD hu2, cmp_ne⟩
  · exact ⟨_, op_lt.or (op_ltD hu2), cmp_lt⟩
  · exact ⟨_, op_le, cmp_le⟩
  · exact ⟨_, op_gt.or (op_gtD hu2), cmp_gt⟩
  · exact ⟨_, op_ge, cmp_ge⟩
  · exact ⟨_, op_isN, cmp_is⟩
  · exact ⟨_, op_notN, cmp_nis⟩
  · exact ⟨_, ((op_inD hu).or (op_dIn hu1)).or (op_inT hu), cmp_in⟩
  · exact ⟨_, ((op_notInD hu).or (op_dNotIn hu1)).or (op_notInT hu), cmp_nin⟩

theorem se_cmp {o : COp} (hu : X.A.units + 65 < cLine) (hm : behindInMarks (opOf o) eb = false) (ha : SE X rp call W ea A) (hb : SE X rp call W eb B) : SE X rp call W (.Compare ea [opOf o] [eb] pos) (.cmp o A B) := by
  obtain ⟨r, hr, ok⟩ := cmp_all (X := X) hu o
  refine PE.imp (pe_cmpR hr ha hb hm) fun σ H Q ⟨G, F, τ, b, pre, h⟩ => ?_
  refine twoV pre h fun x y v w F2 H2 b2 st r1 r2 hq => ?_
  exact ok G F2 H2 b2 x.t y.t v w Q _ _ _ r1 r2 hq fun c hc => fin_sc hc st.ok st.inv rfl (.bl c)
theorem bind_ok {α β : Type} (a : α) (f : α → R β) : (R.ok a >>= f) = f a := rfl
/-- two parts, for a test -/
theorem twoC {β : Type} {f : Val → Val → R β} {Qb : β → Nat → Prop} {Eb : Nat → T → Nat → Prop} (pre : Pre G F H σ τ b) {Rq : V → V → Hp → Prop}
    (h : Sat Qb Eb (do let x ← evE rp call A τ; let y ← evE rp call B τ; f x y) b) (he : ∀ c t b', Eb c t b' → ES G F H W c t b')
    (k : ∀ x y v w F2 H2 b2, Stp G F H F2 H2 b2 → Rep G F2 H2 v x.t → Rep G F2 H2 w y.t → Sat Qb Eb (f x y) b2 → Rq v w H2) : tE rp call W A σ H fun v H1 => tE rp call W B σ H1 fun w H2 => Rq v w H2 :=
  one pre h he fun x v F1 H1 b1 st r hx => one (pre.next st) hx (fun c t b' z => (he c t b' z).next pre.inv st) fun y w F2 H2 b2 st2 r2 hy => k x y v w F2 H2 b2 (st.trans pre.inv st2) (r.lift (st2.lift st.inv st.ok)) r2 hy
theorem sc_cmp {o : COp} (hu : X.A.units + 65 < cLine) (hm : behindInMarks (opOf o) eb = false) (ha : SE X rp call W ea A) (hb : SE X rp call W eb B) : SC X rp call W (.Compare ea [opOf o] [eb] pos) (.cmp o A B) := by
  obtain ⟨r, hr, ok⟩ := cmp_all (X := X) hu o
  refine PT.imp (pt_cmpR hr ha hb hm) fun σ H Qb ⟨G, F, τ, b, pre, h⟩ => ?_
  have e : (do let v ← evE rp call (.cmp o A B) τ; truthy v.t) = (do let x ← evE rp call A τ; let y ← evE rp call B τ; let c ← cmpT o x.t y.t; R.ok c) := by
    show (((evE rp call A τ) >>= fun x => (evE rp call B τ) >>= fun y => cmpT o x.t y.t >>= fun r => mk2 (.bl r)) >>= fun v => truthy v.t) = _
    simp only [bind_assoc]
    rfl
  rw [e] at h
  refine twoC pre h (fun _ _ _ z => z) fun x y v w F2 H2 b2 st r1 r2 hq => ?_
  exact ok G F2 H2 b2 x.t y.t v w _ _ _ _ r1 r2 hq fun c hc => ⟨c, rfl, hc H2 F2 st⟩
theorem sc_not (ha : SC X rp call W ea A) : SC X rp call W (.UnaryOp .Not ea pos) (.not A) :=
  PT.imp (pt_not ha) fun σ H Qb ⟨G, F, τ, b, pre, h⟩ => by
    have e : (do let v ← evE rp call (.not A) τ; truthy v.t) = (do let x ← (do let v ← evE rp call A τ; truthy v.t); R.ok !x) := by
      show (((evE rp call A τ) >>= fun x => truthy x.t >>= fun r => mk2 (.bl !r)) >>= fun v => truthy v.t) = _
      simp only [bind_assoc]
      rfl
    rw [e] at h
    exact ⟨G, F, τ, b, pre, ((sat_bind _ _).1 h).imp (fun r b' hr => hr) fun _ _ _ z => z⟩
abbrev SW (X : Cx) (rp : T → Str) (call : Nat → List T → R Val) (W : XW) (e : Expr) (A : E) : Prop := PW X e (tC rp call W A)
theorem truthy_self {x : T} {β : Type} (f g : R Bool) (h : Sat (fun (r : Bool) (b' : Nat) => True) (fun _ _ _ => True) (truthy x) b) : True := trivial
theorem and_eq (x : T) (g : R Bool) : (do let r ← truthy x; match r with | true => g | false => truthy x) = (do let r ← truthy x; match r with | true => g | false => R.ok false) := by
  cases x <;> first | rfl | skip
  · rename_i b; cases b <;> rfl
  · rename_i i
    show (match (i != 0) with | true => g | false => R.ok (i != 0)) = (match (i != 0) with | true => g | false => R.ok false)
    cases (i != 0) <;> rfl
  · rename_i xs
    show (match (!xs.isEmpty) with | true => g | false => R.ok (!xs.isEmpty)) = (match (!xs.isEmpty) with | true => g | false => R.ok false)
    cases (!xs.isEmpty) <;> rfl
  · rename_i xs
    show (match (!xs.isEmpty) with | true => g | false => R.ok (!xs.isEmpty)) = (match (!xs.isEmpty) with | true => g | false => R.ok false)
    cases (!xs.isEmpty) <;> rfl
theorem or_eq (x : T) (g : R Bool) : (do let r ← truthy x; match r with | true => truthy x | false => g) = (do let r ← truthy x; match r with | true => R.ok true | false => g) := by
  cases x <;> first | rfl | skip
  · rename_i b; cases b <;> rfl
  · rename_i i
    show (match (i != 0) with | true => R.ok (i != 0) | false => g) = (match (i != 0) with | true => R.ok true | false => g)
    cases (i != 0) <;> rfl
  · rename_i xs
    show (match (!xs.isEmpty) with | true => R.ok (!xs.isEmpty) | false => g) = (match (!xs.isEmpty) with | true => R.ok true | false => g)
    cases (!xs.isEmpty) <;> rfl
  · rename_i xs
    show (match (!xs.isEmpty) with | true => R.ok (!xs.isEmpty) | false => g) = (match (!xs.isEmpty) with | true => R.ok true | false => g)
    cases (!xs.isEmpty) <;> rfl
theorem sw_and {rest : List Expr} (ha : SC X rp call W ea A) (hb : SW X rp call W (.BoolOp .And (eb :: rest) pos) B) : SW X rp call W (.BoolOp .And (ea :: eb :: rest) pos) (.and A B) :=
  PW.imp (pw_and ha hb) fun σ H Qb ⟨G, F, τ, b, pre, h⟩ => by
    have e : (do let v ← evE rp call (.and A B) τ; truthy v.t) = (do let c ← (do let v ← evE rp call A τ; truthy v.t); match c with | true => (do let v ← evE rp call B τ; truthy v.t) | false => R.ok false) := by
      show (((evE rp call A τ) >>= fun x => truthy x.t >>= fun r => match r with | true => evE rp call B τ | false => R.ok x) >>= fun v => truthy v.t) = _
      simp only [bind_assoc]
      congr 1; funext x
      rw [← and_eq x.t]
      congr 1; funext r
      cases r <;> rfl
    rw [e] at h
    refine ⟨G, F, τ, b, pre, ((sat_bind _ _).1 h).imp (fun c b1 hc H1 F1 st => ?_) fun _ _ _ z => z⟩
    cases c
    · exact hc H1 F1 st
    · exact ⟨G, F1, τ, b1, pre.next st, hc.imp (fun r b' hr H' F' st' => hr H' F' (st.trans pre.inv st')) fun _ _ _ z => z.next pre.inv st⟩
theorem sw_or {rest : List Expr} (ha : SC X rp call W ea A) (hb : SW X rp call W (.BoolOp .Or (eb :: rest) pos) B) : SW X rp call W (.BoolOp .Or (ea :: eb :: rest) pos) (.or A B) :=
  PW.imp (pw_or ha hb) fun σ H Qb ⟨G, F, τ, b, pre, h⟩ => by
    have e : (do let v ← evE rp call (.or A B) τ; truthy v.t) = (do let c ← (do let v ← evE rp call A τ; truthy v.t); match c with | true => R.ok true | false => (do let v ← evE rp call B τ; truthy v.t)) := by
      show (((evE rp call A τ) >>= fun x => truthy x.t >>= fun r => match r with | true => R.ok x | false => evE rp call B τ) >>= fun v => truthy v.t) = _
      simp only [bind_assoc]
      congr 1; funext x
      rw [← or_eq x.t]
      congr 1; funext r
      cases r <;> rfl
    rw [e] at h
    refine ⟨G, F, τ, b, pre, ((sat_bind _ _).1 h).imp (fun c b1 hc H1 F1 st => ?_) fun _ _ _ z => z⟩
    cases c
    · exact ⟨G, F1, τ, b1, pre.next st, hc.imp (fun r b' hr H' F' st' => hr H' F' (st.trans pre.inv st')) fun _ _ _ z => z.next pre.inv st⟩
    · exact hc H1 F1 st
theorem sw_and1 (ha : SC X rp call W ea A) : SW X rp call W (.BoolOp .And [ea] pos) A := pw_and1 ha
theorem sw_or1 (ha : SC X rp call W ea A) : SW X rp call W (.BoolOp .Or [ea] pos) A := pw_or1 ha

theorem se_ite (hc : SC X rp call W ec C) (ha : SE X rp call W ea A) (hb : SE X rp call W eb B) : SE X rp call W (.IfExp ec ea eb pos) (.ite C A B) :=
  PE.imp (pe_ifExp hc ha hb) fun σ H Q ⟨G, F, τ, b, pre, h⟩ => by
    have e : evE rp call (.ite C A B) τ = (do let c ← (do let v ← evE rp call C τ; truthy v.t); match c with | true => evE rp call A τ | false => evE rp call B τ) := by
      show ((evE rp call C τ) >>= fun x => truthy x.t >>= fun r => match r with | true => evE rp call A τ | false => evE rp call B τ) = _
      simp only [bind_assoc]
    rw [e] at h
    refine ⟨G, F, τ, b, pre, ((sat_bind _ _).1 h).imp (fun c b1 hc H1 F1 st => ?_) fun _ _ _ z => z⟩
    cases c
    · exact ⟨G, F1, τ, b1, pre.next st, sat_next pre.inv st hc⟩
    · exact ⟨G, F1, τ, b1, pre.next st, sat_next pre.inv st hc⟩
end
end TM

set_option Elab.async false
set_option linter.all false
set_option maxRecDepth 100000
set_option maxHeartbeats 4000000
namespace TM
open PySem PySem.Spec L2

section
variable {G : Gb} {F F' : Fz} {H : Hp}
mutual
theorem Rep.any' : ∀ {v : V} {t : T}, t.nomut = true → Rep G F H v t → Rep G F' H v t
  | _, _, _, .non => .non
  | _, _, _, .bl b => .bl b
  | _, _, _, .int i => .int i
  | _, _, _, .str x => .str x
  | _, _, _, .tok e => .tok e
  | _, _, _, .adr => .adr
  | _, _, h, .lst f e r => nomatch h
  | _, _, h, .tup e r => .tup e (Reps.any' h r)
  | _, _, h, .dct f e r => nomatch h
theorem Reps.any' : ∀ {vs : List V} {us : List T}, nomuts us = true → Reps G F H vs us → Reps G F' H vs us
  | _, _, _, .nil => .nil
  | _ :: _, u :: us, h, .cons r rs => by
    have h : (u.nomut && nomuts us) = true := h
    rw [Bool.and_eq_true] at h
    exact .cons (Rep.any' h.1 r) (Reps.any' h.2 rs)
end
end
inductive RepVs (G : Gb) (F : Fz) (H : Hp) : List V → List Val → List Addr → Prop
  | nil : RepVs G F H [] [] []
  | cons {v : V} {vs : List V} {u : Val} {us : List Val} {fp fp' : List Addr} : RepV G F H v u fp → RepVs G F H vs us fp' → RepVs G F H (v :: vs) (u :: us) (fp ++ fp')
section
variable {G : Gb} {F F' F1 F2 : Fz} {H H' H1 H2 : Hp} {b b' b1 b2 : Nat} {σ : St} {τ : TM.Env} {Q : VK} {W : XW}
theorem RepVs.there : ∀ {vs : List V} {us : List Val} {fp : List Addr}, RepVs G F H vs us fp → ∀ a ∈ fp, ∃ o, H a = some o
  | _, _, _, .nil, a, h => nomatch h
  | _, _, _, .cons r rs, a, h => by
    rcases List.mem_append.mp h with h | h
    · exact r.there a h
    · exact rs.there a h
theorem RepVs.share : ∀ {vs : List V} {us : List Val} {fp : List Addr}, RepVs G F H vs us fp → Reps G (por F fp) H vs (ts us)
  | _, _, _, .nil => .nil
  | _, _, _, .cons r rs => .cons (r.share.lift ⟨fun a f => by
      rcases f with f | f
      · exact .inl f
      · exact .inr (List.mem_append_left _ f), fun _ _ e _ => e⟩) (rs.share.lift ⟨fun a f => by
      rcases f with f | f
      · exact .inl f
      · exact .inr (List.mem_append_right _ f), fun _ _ e _ => e⟩)
theorem RepVs.deep : ∀ {vs : List V} {us : List Val} {fp : List Addr}, all2 us = true → RepVs G F H vs us fp → RepDs G F H vs (ts us) fp
  | _, _, _, _, .nil => .nil
  | _, u :: us, _, h, .cons r rs => by
    have h : (Nat.beq u.lv 2 && all2 us) = true := h
    rw [Bool.and_eq_true] at h
    have e : u.lv = 2 := Nat.eq_of_beq_eq_true h.1
    refine .cons ?_ (RepVs.deep h.2 rs)
    obtain ⟨t, lv⟩ := u
    cases e
    exact r
mutual
theorem RepD.kind' : ∀ {v : V} {t : T} {fp : List Addr}, RepD G F H v t fp → ∀ a ∈ fp, (∃ xs, H a = some (.lst xs)) ∨ ∃ kvs, H a = some (.dK kvs)
  | _, _, _, .sh _ _, a, h => nomatch h
  | _, _, _, .lst e r, a, h => by
    rcases List.mem_cons.mp h with q | q
    · rw [q]; exact .inl ⟨_, e⟩
    · exact RepDs.kind' r a q
  | _, _, _, .tup e r, a, h => RepDs.kind' r a h
  | _, _, _, .dct e r, a, h => by
    rcases List.mem_cons.mp h with q | q
    · rw [q]; exact .inr ⟨_, e⟩
    · exact RepDs.kind' r a q
theorem RepDs.kind' : ∀ {vs : List V} {us : List T} {fp : List Addr}, RepDs G F H vs us fp → ∀ a ∈ fp, (∃ xs, H a = some (.lst xs)) ∨ ∃ kvs, H a = some (.dK kvs)
  | _, _, _, .nil, a, h => nomatch h
  | _, _, _, .cons r rs, a, h => (List.mem_append.mp h).elim (RepD.kind' r a) (RepDs.kind' rs a)
end
mutual
/-- what is owned deeply leans on its own things alone -/
theorem RepD.reg : ∀ {v : V} {t : T} {fp : List Addr}, RepD G F H v t fp → Rep G (fun a => a ∈ fp) H v t
  | _, _, _, .sh n r => Rep.any' n r
  | _, _, _, .lst e r => .lst List.mem_cons_self e ((RepDs.reg r).lift ⟨fun _ k => List.mem_cons_of_mem _ k, fun _ _ e _ => e⟩)
  | _, _, _, .tup e r => .tup e (RepDs.reg r)
  | _, _, _, .dct e r => .dct List.mem_cons_self e ((RepDs.reg r).lift ⟨fun _ k => List.mem_cons_of_mem _ k, fun _ _ e _ => e⟩)
theorem RepDs.reg : ∀ {vs : List V} {us : List T} {fp : List Addr}, RepDs G F H vs us fp → Reps G (fun a => a ∈ fp) H vs us
  | _, _, _, .nil => .nil
  | _, _, _, .cons r rs => .cons ((RepD.reg r).lift ⟨fun _ k => List.mem_append_left _ k, fun _ _ e _ => e⟩) ((RepDs.reg rs).lift ⟨fun _ k => List.mem_append_right _ k, fun _ _ e _ => e⟩)
end
theorem RepVs.reg : ∀ {vs : List V} {us : List Val} {fp : List Addr}, all3 us = true → RepVs G F H vs us fp → Reps G (fun a => a ∈ fp) H vs (ts us) ∧ ∀ a ∈ fp, (∃ xs, H a = some (.lst xs)) ∨ ∃ kvs, H a = some (.dK kvs)
  | _, _, _, _, .nil => ⟨.nil, fun _ k => nomatch k⟩
  | v :: _, u :: us, _, h, .cons (fp := f1) (fp' := f2) r rs => by
    have h : ((Nat.beq u.lv 2 || Nat.beq u.lv 3) && all3 us) = true := h
    rw [Bool.and_eq_true, Bool.or_eq_true] at h
    obtain ⟨q, qs⟩ := RepVs.reg h.2 rs
    have key : Rep G (fun a => a ∈ f1) H v u.t ∧ ∀ a ∈ f1, (∃ xs, H a = some (.lst xs)) ∨ ∃ kvs, H a = some (.dK kvs) := by
      obtain ⟨t, lv⟩ := u
      rcases h.1 with e | e
      · cases (Nat.eq_of_beq_eq_true e)
        exact ⟨RepD.reg r, RepD.kind' r⟩
      · cases (Nat.eq_of_beq_eq_true e)
        exact r.2
    exact ⟨.cons (key.1.lift ⟨fun _ k => List.mem_append_left _ k, fun _ _ e _ => e⟩) (q.lift ⟨fun _ k => List.mem_append_right _ k, fun _ _ e _ => e⟩), fun a ha => (List.mem_append.mp ha).elim (key.2 a) (qs a)⟩
theorem RepVs.lift : ∀ {vs : List V} {us : List Val} {fp : List Addr}, LiftD G F F' H H' fp → RepVs G F H vs us fp → RepVs G F' H' vs us fp
  | _, _, _, _, .nil => .nil
  | _, _, _, L, .cons r rs => .cons (r.lift ⟨L.toLift, fun a o h => L.own a o (List.mem_append_left _ h)⟩) (rs.lift ⟨L.toLift, fun a o h => L.own a o (List.mem_append_right _ h)⟩)
def EQs (G : Gb) (F : Fz) (H : Hp) (Q : List V → Hp → Prop) : List Val → Nat → Prop := fun us b' => ∀ vs H' F' fp, Stp G F H F' H' b' → RepVs G F' H' vs us fp → Own F' H fp → Q vs H'
theorem own_app (s : SInv G b H) (st : Stp G F H F1 H1 b1) (st2 : Stp G F1 H1 F2 H2 b2) {fp fp' : List Addr} (o : Own F1 H fp) (o' : Own F2 H1 fp') (t : ∀ a ∈ fp, ∃ u, H1 a = some u) : Own F2 H (fp ++ fp') := by
  refine ⟨List.nodup_append.mpr ⟨o.1, o'.1, fun a ha c hc e => ?_⟩, fun a ha => ?_⟩
  · subst e
    obtain ⟨u, hu⟩ := t a ha
    rw [(o'.2 a hc).1] at hu; cases hu
  · rcases List.mem_append.mp ha with ha | ha
    · exact ⟨(o.2 a ha).1, own_out st2 t (fun a ha => (o.2 a ha).2) a ha⟩
    · exact ⟨none_back s st.inv st.ext (o'.2 a ha).1, (o'.2 a ha).2⟩
end

section
variable (rp : T → Str) (call : Nat → List T → R Val) (W : XW)
def tEs (As : Es) : TA := fun σ H Q => ∃ G F τ b, Pre G F H σ τ b ∧ Sat (EQs G F H Q) (ES G F H W) (evEs rp call As τ) b
end
theorem PA.imp {X : Cx} {es : List Expr} {t t' : TA} (h : PA X es t) (i : ∀ σ H Q, t' σ H Q → t σ H Q) : PA X es t' := ⟨fun pos pins s σ H Q I q => h.run pos pins s σ H Q I (i σ H Q q)⟩
theorem PK.imp {X : Cx} {es : List Keyword} {t t' : TA} (h : PK X es t) (i : ∀ σ H Q, t' σ H Q → t σ H Q) : PK X es t' := ⟨fun pos pins s σ H Q I q => h.run pos pins s σ H Q I (i σ H Q q)⟩

section
variable {X : Cx} {rp : T → Str} {call : Nat → List T → R Val} {W : XW} {G : Gb} {F : Fz} {H : Hp} {b : Nat} {σ : St} {τ : TM.Env} {Q : VK} {pos p apos : Pos} {e ea eb ec : Expr} {es : List Expr} {A B C : E} {As Bs : Es}
abbrev SA (X : Cx) (rp : T → Str) (call : Nat → List T → R Val) (W : XW) (es : List Expr) (As : Es) : Prop := PA X es (tEs rp call W As)
abbrev SK (X : Cx) (rp : T → Str) (call : Nat → List T → R Val) (W : XW) (es : List Keyword) (As : Es) : Prop := PK X es (tEs rp call W As)

theorem es_nil {Qs : List V → Hp → Prop} (h : tEs rp call W .nil σ H Qs) : Qs [] H := by
  obtain ⟨G, F, τ, b, pre, h⟩ := h
  exact h [] H F [] (Stp.refl pre.ok pre.inv) .nil ⟨List.nodup_nil, fun _ k => nomatch k⟩
theorem es_cons {Qs : List V → Hp → Prop} (h : tEs rp call W (.cons A As) σ H Qs) : tE rp call W A σ H fun x H1 => tEs rp call W As σ H1 fun xs H2 => Qs (x :: xs) H2 := by
  obtain ⟨G, F, τ, b, pre, h⟩ := h
  refine ⟨G, F, τ, b, pre, ((sat_bind _ _).1 h).imp (fun u b1 hu v H1 F1 fp st r o => ?_) fun _ _ _ z => z⟩
  refine ⟨G, F1, τ, b1, pre.next st, ((sat_bind _ _).1 hu).imp (fun us b2 hus vs H2 F2 fp' st2 rs o' => ?_) fun _ _ _ z => z.next pre.inv st⟩
  have hv : ∀ a ∈ fp, ¬ vol G a := fun a ha => not_vol_of_none pre.inv (o.2 a ha).1
  exact hus _ H2 F2 _ (st.trans pre.inv st2) (.cons (own_lift st.inv st.ok st2 r hv) rs) (own_app pre.inv st st2 o o' r.there)
theorem sa_nil : SA X rp call W [] .nil := PA.imp pa_nil fun σ H Q h => es_nil h
theorem sa_cons (ha : SE X rp call W e A) (hs : SA X rp call W es As) (hst : starEach (e :: es) X.env = (false, eval e X.env) :: starEach es X.env) : SA X rp call W (e :: es) (.cons A As) := PA.imp (pa_cons ha hs hst) fun σ H Q h => es_cons h
theorem sk_nil : SK X rp call W [] .nil := PK.imp pk_nil fun σ H Q h => es_nil h
theorem sk_cons {nm : Option Str} {kp : Pos} {kws : List Keyword} (ha : SE X rp call W e A) (hs : SK X rp call W kws As) : SK X rp call W (⟨nm, e, kp⟩ :: kws) (.cons A As) := PK.imp (pk_cons ha hs) fun σ H Q h => es_cons h

/-- all parts, shared from then on -/
theorem many {β : Type} {f : List Val → R β} {Qb : β → Nat → Prop} {Eb : Nat → T → Nat → Prop} (pre : Pre G F H σ τ b) {Rq : List V → Hp → Prop}
    (h : Sat Qb Eb (do let xs ← evEs rp call As τ; f xs) b) (he : ∀ c t b', Eb c t b' → ES G F H W c t b')
    (k : ∀ us vs F1 H1 b1, Stp G F H F1 H1 b1 → Reps G F1 H1 vs (ts us) → Sat Qb Eb (f us) b1 → Rq vs H1) : tEs rp call W As σ H Rq := by
  refine ⟨G, F, τ, b, pre, ((sat_bind _ _).1 h).imp (fun us b1 hx vs H1 F1 fp st r o => ?_) he⟩
  exact k us vs (por F1 fp) H1 b1 (st.freeze pre.inv (fun a ha => (o.2 a ha).1) r.there) r.share hx

/-! ### displays -/
theorem LE_line {n : Nat} (h : Nat.ble n LINE = true) : n ≤ sizeLine := by rw [line_eq]; exact Nat.le_of_ble_eq_true h
theorem lift_new {F : Fz} {p : Addr} {o : HO} (hp : H p = none) : Lift G F F H (upd H p o) := ⟨fun _ f => f, fun a u e _ => by rw [upd_ne (ne_of_none e hp)]; exact e⟩
theorem liftD_new {F : Fz} {p : Addr} {o : HO} {fp : List Addr} (hp : H p = none) : LiftD G F F H (upd H p o) fp := ⟨lift_new hp, fun a u _ e => by rw [upd_ne (ne_of_none e hp)]; exact e⟩
theorem RepVs.length : ∀ {vs : List V} {us : List Val} {fp : List Addr}, RepVs G F H vs us fp → vs.length = us.length
  | _, _, _, .nil => rfl
  | _, _, _, .cons _ r => congrArg (· + 1) r.length
theorem ts_length (us : List Val) : (ts us).length = us.length := List.length_map _
theorem own_cons {F1 : Fz} {H1 : Hp} {b1 : Nat} {p : Addr} {fp : List Addr} (s : SInv G b H) (st : Stp G F H F1 H1 b1) (o : Own F1 H fp) (t : ∀ a ∈ fp, ∃ u, H1 a = some u) (hp : H1 p = none) : Own F1 H (p :: fp) :=
  ⟨List.nodup_cons.mpr ⟨(fun h => by
    obtain ⟨u, hu⟩ := t p h
    rw [hp] at hu
    cases hu), o.1⟩, fun a ha => by
    rcases List.mem_cons.mp ha with rfl | ha
    · exact ⟨none_back s st.inv st.ext hp, fok_new st.ok hp⟩
    · exact o.2 a ha⟩
/-- a new list of such values -/
theorem fin_mkL {F1 : Fz} {H1 : Hp} {b1 : Nat} {us : List Val} {vs : List V} {fp : List Addr} (s : SInv G b H) (h : Sat (EQ G F H Q) (ES G F H W) (mkList us) b1) (st : Stp G F H F1 H1 b1) (r : RepVs G F1 H1 vs us fp) (o : Own F1 H fp) :
    vs.length ≤ sizeLine ∧ ∀ p, H1 p = none → Q (.ref p) (upd H1 p (.lst vs)) := by
  unfold mkList at h
  obtain ⟨hl, h⟩ := sat_iteB h
  refine ⟨by rw [r.length]; exact LE_line hl, fun p hp => ?_⟩
  have st' := st.trans s (stp_new st.ok st.inv (o := .lst vs) hp)
  cases h2 : all2 us with
  | true =>
    have h : EQ G F H Q ⟨.lst (ts us), if all2 us then 2 else if all3 us then 3 else 1⟩ b1 := h
    rw [h2, if_pos rfl] at h
    exact h (.ref p) _ F1 (p :: fp) st' (RepD.lst upd_same (RepVs.deep h2 (r.lift (liftD_new hp)))) (own_cons s st o r.there hp)
  | false =>
    have h : EQ G F H Q ⟨.lst (ts us), if all2 us then 2 else if all3 us then 3 else 1⟩ b1 := h
    rw [h2, if_neg (by decide)] at h
    cases h3 : all3 us with
    | true =>
      rw [h3, if_pos rfl] at h
      have rr := (r.lift (liftD_new (o := .lst vs) hp)).reg h3
      refine h (.ref p) _ F1 (p :: fp) st' ⟨rfl, .lst List.mem_cons_self upd_same (rr.1.lift ⟨fun _ k => List.mem_cons_of_mem _ k, fun _ _ e _ => e⟩), fun a ha => ?_⟩ (own_cons s st o r.there hp)
      rcases List.mem_cons.mp ha with rfl | ha
      · exact .inl ⟨_, upd_same⟩
      · exact rr.2 a ha
    | false =>
    rw [h3, if_neg (by decide)] at h
    have fz := st'.freeze s (fp := fp) (fun a ha => (o.2 a ha).1) (fun a ha => by
      obtain ⟨u, hu⟩ := r.there a ha
      exact ⟨u, by rw [upd_ne (ne_of_none hu hp)]; exact hu⟩)
    refine h (.ref p) _ (por F1 fp) [p] fz ⟨p, rfl, rfl, .inl ⟨vs, ts us, rfl, upd_same, r.share.lift (lift_new hp)⟩⟩ ⟨by simp, fun a ha => ?_⟩
    have e : a = p := by simpa using ha
    subst e
    refine ⟨none_back s st.inv st.ext hp, fun f => ?_⟩
    rcases f with f | f
    · exact fok_new st.ok hp f
    · obtain ⟨u, hu⟩ := r.there a f
      rw [hp] at hu; cases hu
theorem se_lst (hs : SA X rp call W es As) : SE X rp call W (.List es pos) (.lst As) :=
  PE.imp (pe_lst hs) fun σ H Q ⟨G, F, τ, b, pre, h⟩ =>
    ⟨G, F, τ, b, pre, ((sat_bind _ _).1 h).imp (fun us b1 hx vs H1 F1 fp st r o => fin_mkL pre.inv hx st r o) fun _ _ _ z => z⟩
theorem se_tup {k : Nat} (hs : SA X rp call W es As) (hl : es.length ≤ 1000) (hA : True) : SE X rp call W (.Tuple es k pos) (.tup As) :=
  PE.imp (pe_tup hs) fun σ H Q ⟨G, F, τ, b, pre, h⟩ => by
    refine ⟨G, F, τ, b, pre, ((sat_bind _ _).1 h).imp (fun us b1 hx vs H1 F1 fp st r o => ?_) fun _ _ _ z => z⟩
    have hx : Sat (EQ G F H Q) (ES G F H W) (mkTup us) b1 := hx
    unfold mkTup at hx
    obtain ⟨hl, hx⟩ := sat_iteB hx
    refine ⟨by rw [r.length]; exact LE_line hl, fun p hp => ?_⟩
    have st' := st.trans pre.inv (stp_new st.ok st.inv (o := .tup vs) hp)
    have ht : ∀ a ∈ fp, ∃ u, (upd H1 p (.tup vs)) a = some u := fun a ha => by
      obtain ⟨u, hu⟩ := r.there a ha
      exact ⟨u, by rw [upd_ne (ne_of_none hu hp)]; exact hu⟩
    cases h2 : all2 us with
    | true =>
      have hx : EQ G F H Q ⟨.tup (ts us), if all2 us then 2 else 0⟩ b1 := hx
      rw [h2, if_pos rfl] at hx
      exact hx (.ref p) _ F1 fp st' (RepD.tup upd_same (RepVs.deep h2 (r.lift (liftD_new hp)))) o
    | false =>
      have hx : EQ G F H Q ⟨.tup (ts us), if all2 us then 2 else 0⟩ b1 := hx
      rw [h2, if_neg (by decide)] at hx
      exact hx (.ref p) _ (por F1 fp) [] (st'.freeze pre.inv (fun a ha => (o.2 a ha).1) ht) ⟨.tup upd_same (r.share.lift (lift_new hp)), rfl⟩ ⟨List.nodup_nil, fun _ k => nomatch k⟩

/-! ### subscripts -/
theorem atI_rep {vs : List V} {us : List T} {i : Int} {t : T} (r : Reps G F H vs us) (h : atI us i = some t) : ∃ v, atI vs i = some v ∧ Rep G F H v t := by
  unfold atI at h ⊢
  rw [r.length]
  cases e : ixN us.length i with
  | none => rw [e] at h; cases h
  | some j =>
    rw [e] at h
    obtain ⟨v, h1, h2⟩ := r.get (i := j) h
    exact ⟨v, h1, h2⟩
def rIxD2 : R2 := fun x y H Q => ∃ a v, x = .ref a ∧ DGet H a y (some v) ∧ Q v H
theorem ix_dct (hu : X.A.units + 1 < cLine) : IxR X rIxD2 := by
  intro value slice pins s σ H x y v u Q I rx ry h hs
  obtain ⟨a, w, rfl, g, q⟩ := h
  cases rx
  exact PyProof.Rows.tail_any (dict_typeIs I g) PySem.F.slot_dict_getitem.lookup (d_getItem hu I g ry fun w' s3 I3 rw' => ⟨w, H, I3, rw', q⟩) hs
theorem se_idx (hu : X.A.units + 65 < cLine) (hpl : PlainIx eb) (ha : SE X rp call W ea A) (hb : SE X rp call W eb B) : SE X rp call W (.Subscript ea eb pos) (.idx A B) := by
  refine PE.imp (pe_ix (ix_list.or (ix_tup.or (ix_dct (by omega)))) ha hb hpl) fun σ H Q ⟨G, F, τ, b, pre, h⟩ => ?_
  refine twoV pre h fun ⟨x, lx⟩ ⟨y, ly⟩ v w F2 H2 b2 st r1 r2 hq => ?_
  cases x
  case lst xs =>
    cases y
    case int i =>
      obtain ⟨a, vs, rfl, f1, e1, q1⟩ := repLstInv r1
      cases repIntInv r2
      have hq : Sat _ _ (getAt xs i >>= fun x => R.ok x.rd) b2 := hq
      unfold getAt at hq
      split at hq
      · rename_i t e
        obtain ⟨z, h1, h2⟩ := atI_rep q1 e
        exact .inl ⟨_, _, _, z, rfl, rfl, SqL.of e1, h1, fin_rd hq st.ok st.inv h2⟩
      · exact hq.elim
    all_goals exact hq.elim
  case tup xs =>
    cases y
    case int i =>
      obtain ⟨a, vs, rfl, e1, q1⟩ := repTupInv r1
      cases repIntInv r2
      have hq : Sat _ _ (getAt xs i >>= fun x => R.ok x.rd) b2 := hq
      unfold getAt at hq
      split at hq
      · rename_i t e
        obtain ⟨z, h1, h2⟩ := atI_rep q1 e
        exact .inr (.inl ⟨_, _, _, z, rfl, rfl, SqT.of e1, h1, fin_rd hq st.ok st.inv h2⟩)
      · exact hq.elim
    all_goals exact hq.elim
  case dct ks vs =>
    have hq : Sat (EQ G F2 H2 Q) (ES G F2 H2 W) (if (flatT y && ks.all flatT) = true then (match lookT y ks vs with | some v => .ok v.rd | none => .stuck) else .stuck) b2 := by cases y <;> exact hq
    obtain ⟨hc, hq⟩ := sat_iteB hq
    rw [Bool.and_eq_true] at hc
    obtain ⟨k', rfl, rfl⟩ := flat_key r2 hc.1
    cases r1 with
    | dct f e r =>
      split at hq
      · rename_i t et
        obtain ⟨z, h1, h2⟩ := (lookT_valV r).1 t et
        refine .inr (.inr ⟨_, z, rfl, ?_, fin_rd hq st.ok st.inv h2⟩)
        rw [← h1]
        exact DGet.k e
      · exact hq.elim
  all_goals (cases y <;> exact hq.elim)
end
end TM

set_option Elab.async false
set_option linter.all false
set_option maxRecDepth 100000
set_option maxHeartbeats 4000000
namespace TM
open PySem PySem.Spec L2
section
variable {X : Cx} {rp : T → Str} {call : Nat → List T → R Val} {W : XW} {G : Gb} {F : Fz} {H : Hp} {b : Nat} {σ : St} {τ : TM.Env} {Q : VK} {pos p p2 apos : Pos} {e ea eb ec : Expr} {es : List Expr} {A B C : E} {As Bs : Es} {lo hi : Option Expr} {L U : OE}

/-! ### slices -/
def tO (rp : T → Str) (call : Nat → List T → R Val) (W : XW) (A : OE) : TO := fun σ H Q => ∃ G F τ b, Pre G F H σ τ b ∧ Sat (fun r b' => ∀ H' F', Stp G F H F' H' b' → Q r H') (ES G F H W) (evO rp call A τ) b
theorem PO.imp {e : Option Expr} {t t' : TO} (h : PO X e t) (i : ∀ σ H Q, t' σ H Q → t σ H Q) : PO X e t' := ⟨fun pins s σ H Q I q => h.run pins s σ H Q I (i σ H Q q)⟩
abbrev SO (X : Cx) (rp : T → Str) (call : Nat → List T → R Val) (W : XW) (e : Option Expr) (A : OE) : Prop := PO X e (tO rp call W A)
theorem so_no : SO X rp call W none .no := PO.imp po_none fun σ H Q ⟨G, F, τ, b, pre, h⟩ => h H F (Stp.refl pre.ok pre.inv)
theorem so_yes (ha : SE X rp call W e A) : SO X rp call W (some e) (.yes A) := PO.imp (po_some ha) fun σ H Q ⟨G, F, τ, b, pre, h⟩ => by
  refine one pre h (fun _ _ _ z => z) fun ⟨x, lx⟩ v F1 H1 b1 st r hx => ?_
  cases x
  case int i =>
    cases repIntInv r
    exact ⟨_, rfl, hx H1 F1 st⟩
  all_goals exact hx.elim
theorem cut_reps {vs : List V} {us : List T} {l u : Option Int} (r : Reps G F H vs us) : Reps G F H (cutV vs l u) (cut us l u) := by
  unfold cutV cut
  rw [r.length]
  exact (r.drop _).take _
theorem se_slc (ha : SE X rp call W ea A) (hl : SO X rp call W lo L) (hu : SO X rp call W hi U) : SE X rp call W (.Subscript ea (.Slice lo hi none p2) pos) (.slc A L U) := by
  refine PE.imp (pe_slice (sl_list.or sl_tupA) ha hl hu) fun σ H Q ⟨G, F, τ, b, pre, h⟩ => ?_
  refine oneV pre h fun ⟨x, lx⟩ v F1 H1 b1 st r hx => ?_
  refine ⟨G, F1, τ, b1, pre.next st, ((sat_bind _ _).1 hx).imp (fun l b2 hl H2 F2 st2 => ?_) fun _ _ _ z => z⟩
  refine ⟨G, F2, τ, b2, (pre.next st).next st2, ((sat_bind _ _).1 hl).imp (fun u b3 hq H3 F3 st3 => ?_) fun _ _ _ z => z.next st.inv st2⟩
  have st23 := st2.trans st.inv st3
  replace r := r.lift (st23.lift st.inv st.ok)
  replace hq := sat_next st.inv st23 hq
  cases x
  case lst xs =>
    obtain ⟨a, vs, rfl, f1, e1, q1⟩ := repLstInv r
    exact .inl ⟨_, _, rfl, SqL.of e1, fin_lst hq st3.ok st3.inv (cut_reps q1)⟩
  case tup xs =>
    obtain ⟨a, vs, rfl, e1, q1⟩ := repTupInv r
    refine .inr ⟨_, _, rfl, SqT.of e1, fun ⟨z1, z2⟩ => ?_, fun _ => fin_tup hq st3.ok st3.inv (cut_reps q1)⟩
    have ec : cut xs l u = xs := by
      unfold cut
      rw [← q1.length, z1, z2, q1.length]
      simp
    have hq : EQ G F3 H3 Q (T.tup (cut xs l u)).rd b3 := hq
    rw [ec] at hq
    exact fin_rd hq st3.ok st3.inv r
  all_goals exact hq.elim

/-! ### isinstance -/
def tyName : Ty → String
  | .int => "int" | .bool => "bool" | .str => "str" | .list => "list" | .tuple => "tuple" | .dict => "dict"
def tyOfT : T → String
  | .non => "NoneType" | .bl _ => "bool" | .int _ => "int" | .str _ => "str" | .tok _ => "?" | .lst _ => "list" | .tup _ => "tuple" | .dct _ _ => "dict"
theorem kit_tab {K : PySem.W.Frag} {v : V} {t : T} {c : Ty} {Qa : Bool → Nat → Prop} {E : Nat → T → Nat → Prop} (r : Rep G F H v t) (h : Sat Qa E (isTy t c) b) : ∃ c', TyX K H v (.type (tyOfT t)) ∧ PySem.W.kitOne K (.type (tyOfT t)) (.type (tyName c)) = some c' ∧ isTy t c = .ok c' := by
  cases r with
  | non => cases c <;> exact ⟨_, .base .non, kit_ty (by dsimp only [tyOfT, tyName]; decide +kernel), rfl⟩
  | bl x => cases c <;> exact ⟨_, .base (.bl x), kit_ty (by dsimp only [tyOfT, tyName]; decide +kernel), rfl⟩
  | int i => cases c <;> exact ⟨_, .base (.int i), kit_ty (by dsimp only [tyOfT, tyName]; decide +kernel), rfl⟩
  | str x => cases c <;> exact ⟨_, .base (.str x), kit_ty (by dsimp only [tyOfT, tyName]; decide +kernel), rfl⟩
  | tok e => cases c <;> exact h.elim
  | adr => cases c <;> exact h.elim
  | lst f e r => cases c <;> exact ⟨_, .base (.lst e), kit_ty (by dsimp only [tyOfT, tyName]; decide +kernel), rfl⟩
  | tup e r => cases c <;> exact ⟨_, .base (.tup e), kit_ty (by dsimp only [tyOfT, tyName]; decide +kernel), rfl⟩
  | dct f e r => cases c <;> exact ⟨_, .base (.dK e), kit_ty (by dsimp only [tyOfT, tyName]; decide +kernel), rfl⟩
theorem isTys_ok {K : PySem.W.Frag} {v : V} {t : T} (r : Rep G F H v t) {β : Type} {f : Bool → R β} {Qa : β → Nat → Prop} {E : Nat → T → Nat → Prop} : ∀ {cs : List Ty}, cs ≠ [] → Sat Qa E (isTys t cs >>= f) b → ∃ c', TyX K H v (.type (tyOfT t)) ∧ PySem.W.kitAny K (.type (tyOfT t)) (cs.map fun c => .type (tyName c)) = some c' ∧ isTys t cs = .ok c'
  | [], h, _ => absurd rfl h
  | [c], _, h => by
    obtain ⟨c', h1, h2, h3⟩ := kit_tab (K := K) r ((sat_bind (isTy t c) _).1 ((sat_bind _ _).1 h))
    refine ⟨c', h1, ?_, ?_⟩
    · show (match PySem.W.kitOne K (.type (tyOfT t)) (.type (tyName c)) with | some true => some true | some false => PySem.W.kitAny K (.type (tyOfT t)) [] | none => none) = _
      rw [h2]; cases c' <;> rfl
    · show (isTy t c >>= fun x => isTys t [] >>= fun d => R.ok (x || d)) = _
      rw [h3]
      show R.ok (c' || false) = _
      rw [Bool.or_false]
  | c :: c2 :: cs, _, h => by
    obtain ⟨c', h1, h2, h3⟩ := kit_tab (K := K) r ((sat_bind (isTy t c) _).1 ((sat_bind _ _).1 h))
    have h : Sat Qa E ((isTy t c >>= fun x => isTys t (c2 :: cs) >>= fun d => R.ok (x || d)) >>= f) b := h
    rw [h3] at h
    obtain ⟨d, g1, g2, g3⟩ := isTys_ok (K := K) (cs := c2 :: cs) r (by simp) ((sat_bind _ _).1 h)
    refine ⟨c' || d, h1, ?_, ?_⟩
    · show (match PySem.W.kitOne K (.type (tyOfT t)) (.type (tyName c)) with | some true => some true | some false => PySem.W.kitAny K (.type (tyOfT t)) ((c2 :: cs).map fun c => .type (tyName c)) | none => none) = _
      rw [h2]
      cases c'
      · exact g2
      · rfl
    · show (isTy t c >>= fun x => isTys t (c2 :: cs) >>= fun d => R.ok (x || d)) = _
      rw [h3, g3]; rfl
theorem pe_type {x : Str} {n : String} (hg : Gl X x) (hm : X.mg x = none) (hv : bootBuiltins x = some (.type n)) (hn : x ≠ "__name__") (hdb : (x == ("__debug__" : Str)) = false) : PE X (.Name x pos) (L2.tC (.ty n)) := pe_bltn hg hm hv rfl hn hdb
theorem se_isi1 {c : Ty} (hg : Gl X "isinstance") (hm : X.mg "isinstance" = none) (ha : SE X rp call W ea A) (hc : PE X ec (L2.tC (.ty (tyName c)))) (he : starEach [ea, ec] X.env = (false, eval ea X.env) :: starEach [ec] X.env) (he2 : starEach [ec] X.env = (false, eval ec X.env) :: starEach [] X.env) :
    SE X rp call W (.Call (.Name "isinstance" p) [ea, ec] [] pos) (.isi A [c]) := by
  refine PE.imp (pe_callB (x := "isinstance") call_isi hg hm (by decide +kernel) (pa_cons ha (pa_cons hc pa_nil he2) he) (by decide) (by decide) he (by rw [he2]; rfl)) fun σ H Q ⟨G, F, τ, b, pre, h⟩ => ?_
  refine oneV pre h fun x v F1 H1 b1 st r hx => ?_
  obtain ⟨c', h1, h2, h3⟩ := isTys_ok (K := X.K) r (by simp) hx
  rw [h3] at hx
  have h2 : (match PySem.W.kitOne X.K (.type (tyOfT x.t)) (.type (tyName c)) with | some true => some true | some false => PySem.W.kitAny X.K (.type (tyOfT x.t)) [] | none => none) = some c' := h2
  refine ⟨v, _, _, _, c', rfl, .ty _, h1, ?_, fin_sc hx st.ok st.inv rfl (.bl c')⟩
  cases e : PySem.W.kitOne X.K (.type (tyOfT x.t)) (.type (tyName c)) with
  | none => rw [e] at h2; cases h2
  | some d => rw [e] at h2; cases d <;> exact h2
/-- names of classes, as a display -/
inductive TyNames (X : Cx) : List Expr → List Ty → Prop
  | nil : TyNames X [] []
  | cons {e : Expr} {es : List Expr} {c : Ty} {cs : List Ty} : PE X e (L2.tC (.ty (tyName c))) → starEach (e :: es) X.env = (false, eval e X.env) :: starEach es X.env → TyNames X es cs → TyNames X (e :: es) (c :: cs)
theorem pa_tys : ∀ {es : List Expr} {cs : List Ty}, TyNames X es cs → PA X es (fun _ H Q => Q (cs.map fun c => .ty (tyName c)) H)
  | _, _, .nil => pa_nil
  | _, _, .cons h hs r => PA.imp (pa_cons h (pa_tys r) hs) fun σ H Q q => q
theorem paired_tys : ∀ cs : List Ty, Paired ClsV (cs.map fun c => V.ty (tyName c)) (cs.map fun c => Value.type (tyName c))
  | [] => .nil
  | _ :: cs => .cons (.ty _) (paired_tys cs)
theorem tyx_lift {K : PySem.W.Frag} {v : V} {t : T} (r : Rep G F H v t) (hk : ∀ n, t ≠ .tok n) : TyX K H v (.type (tyOfT t)) := by
  cases r with
  | non => exact .base .non
  | bl x => exact .base (.bl x)
  | int i => exact .base (.int i)
  | str x => exact .base (.str x)
  | tok e => exact absurd rfl (hk 1)
  | @adr a => exact absurd rfl (hk (a + 2))
  | lst f e r => exact .base (.lst e)
  | tup e r => exact .base (.tup e)
  | dct f e r => exact .base (.dK e)
theorem se_isiT {cs : List Ty} {k : Nat} {tp : Pos} (hl : Nat.ble cs.length LINE = true) (hne : cs ≠ []) (hg : Gl X "isinstance") (hm : X.mg "isinstance" = none) (ha : SE X rp call W ea A) (hc : TyNames X es cs) (he : starEach [ea, .Tuple es k tp] X.env = (false, eval ea X.env) :: starEach [.Tuple es k tp] X.env) :
    SE X rp call W (.Call (.Name "isinstance" p) [ea, .Tuple es k tp] [] pos) (.isi A cs) := by
  refine PE.imp (pe_callB (x := "isinstance") call_isiT hg hm (by decide +kernel) (pa_cons ha (pa_cons (pe_tup (pa_tys hc)) pa_nil rfl) he) (by decide) (by decide) he rfl) fun σ H Q ⟨G, F, τ, b, pre, h⟩ => ?_
  refine oneV pre h fun x v F1 H1 b1 st r hx => ?_
  obtain ⟨c', h1, h2, h3⟩ := isTys_ok (K := X.K) r hne hx
  rw [h3] at hx
  refine ⟨by rw [List.length_map]; exact LE_line hl, fun t ht => ?_⟩
  have hnt : ∀ n, x.t ≠ .tok n := fun n z => by
    rw [z] at h3
    cases cs with
    | nil => exact hne rfl
    | cons c cs => cases c <;> exact nomatch h3
  have st2 := stp_new (o := .tup (cs.map fun c => .ty (tyName c))) st.ok st.inv ht
  refine ⟨v, t, _, _, _, c', rfl, upd_same, paired_tys cs, tyx_lift (r.lift (st2.lift st.inv st.ok)) hnt, h2, ?_⟩
  exact fin_sc (sat_next st.inv st2 hx) st2.ok st2.inv rfl (.bl c')

/-! ### chains -/
theorem sat_chain {x y z : Val} : True := trivial
theorem se_chain {o o' : COp} (hu : X.A.units + 65 < cLine) (ha : SE X rp call W ea A) (hb : SE X rp call W eb B) (hc : SE X rp call W ec C) (hm : lastMarks [opOf o, opOf o'] [eb, ec] = false) : SE X rp call W (.Compare ea [opOf o, opOf o'] [eb, ec] pos) (.chain o o' A B C) := by
  obtain ⟨r, hr, ok⟩ := cmp_all (X := X) hu o
  obtain ⟨r', hr', ok'⟩ := cmp_all (X := X) hu o'
  refine PE.imp (pe_chain hr hr' ha hb hc hm) fun σ H Q ⟨G, F, τ, b, pre, h⟩ => ?_
  refine twoV pre h fun x y v w F2 H2 b2 st r1 r2 hq => ?_
  refine ok G F2 H2 b2 x.t y.t v w _ _ _ _ r1 r2 hq fun c hc => ⟨c, rfl, ?_⟩
  cases c
  · exact fin_sc hc st.ok st.inv rfl (.bl false)
  · refine oneV (pre.next st) hc fun z u F3 H3 b3 st3 r3 hz => ?_
    exact ok' G F3 H3 b3 y.t z.t w u _ _ _ _ (r2.lift (st3.lift st.inv st.ok)) r3 hz fun c hc => fin_sc hc st3.ok st3.inv rfl (.bl c)
theorem sc_chain {o o' : COp} (hu : X.A.units + 65 < cLine) (ha : SE X rp call W ea A) (hb : SE X rp call W eb B) (hc : SE X rp call W ec C) (hm : lastMarks [opOf o, opOf o'] [eb, ec] = false) : SC X rp call W (.Compare ea [opOf o, opOf o'] [eb, ec] pos) (.chain o o' A B C) := by
  obtain ⟨r, hr, ok⟩ := cmp_all (X := X) hu o
  obtain ⟨r', hr', ok'⟩ := cmp_all (X := X) hu o'
  refine PT.imp (pt_chain hr hr' ha hb hc hm) fun σ H Qb ⟨G, F, τ, b, pre, h⟩ => ?_
  have e : (do let v ← evE rp call (.chain o o' A B C) τ; truthy v.t) = (do let x ← evE rp call A τ; let y ← evE rp call B τ; let c ← cmpT o x.t y.t; match c with | true => (do let z ← evE rp call C τ; let c' ← cmpT o' y.t z.t; R.ok c') | false => R.ok false) := by
    show (((evE rp call A τ) >>= fun x => (evE rp call B τ) >>= fun y => cmpT o x.t y.t >>= fun r => match r with | true => (evE rp call C τ) >>= fun z => cmpT o' y.t z.t >>= fun r' => mk2 (.bl r') | false => mk2 (.bl false)) >>= fun v => truthy v.t) = _
    simp only [bind_assoc]
    congr 1; funext x
    congr 1; funext y
    congr 1; funext r
    cases r
    · rfl
    · simp only [bind_assoc]; rfl
  rw [e] at h
  refine twoC pre h (fun _ _ _ z => z) fun x y v w F2 H2 b2 st r1 r2 hq => ?_
  refine ok G F2 H2 b2 x.t y.t v w _ _ _ _ r1 r2 hq fun c hc => ⟨c, rfl, ?_⟩
  cases c
  · exact ⟨false, rfl, hc H2 F2 st⟩
  · refine one (pre.next st) hc (fun _ _ _ z => z.next pre.inv st) fun z u F3 H3 b3 st3 r3 hz => ?_
    exact ok' G F3 H3 b3 y.t z.t w u _ _ _ _ (r2.lift (st3.lift st.inv st.ok)) r3 hz fun c hc => ⟨c, rfl, hc H3 F3 (st.trans pre.inv st3)⟩
end
end TM

set_option Elab.async false
set_option linter.all false
set_option maxRecDepth 100000
set_option maxHeartbeats 4000000
namespace TM
open PySem PySem.Spec L2
section
variable {X : Cx} {rp : T → Str} {call : Nat → List T → R Val} {W : XW} {G : Gb} {F : Fz} {H : Hp} {b : Nat} {σ : St} {τ : TM.Env} {Q : VK} {pos p p2 apos : Pos} {e ea eb ec : Expr} {es : List Expr} {A B C : E} {As Bs : Es}

/-- a built-in's rule is served by what the trees give -/
def BiOk (rp : T → Str) (f : BI) (r : List V → Hp → VK → Prop) : Prop :=
  ∀ (G : Gb) (F : Fz) (H : Hp) (n : Nat) (us : List T) (vs : List V) (Q : VK) (W : XW), FOk G F H → SInv G n H → Reps G F H vs us → Sat (EQ G F H Q) (ES G F H W) (biT rp f us) n → r vs H Q
theorem reps1 {vs : List V} {t : T} (r : Reps G F H vs [t]) : ∃ v, vs = [v] ∧ Rep G F H v t := by
  cases r with
  | cons r rs => cases rs; exact ⟨_, rfl, r⟩
theorem reps2 {vs : List V} {t u : T} (r : Reps G F H vs [t, u]) : ∃ v w, vs = [v, w] ∧ Rep G F H v t ∧ Rep G F H w u := by
  cases r with
  | cons r rs =>
    obtain ⟨w, rfl, r2⟩ := reps1 rs
    exact ⟨_, _, rfl, r, r2⟩
theorem reps3 {vs : List V} {t u x : T} (r : Reps G F H vs [t, u, x]) : ∃ v w y, vs = [v, w, y] ∧ Rep G F H v t ∧ Rep G F H w u ∧ Rep G F H y x := by
  cases r with
  | cons r rs =>
    obtain ⟨w, y, rfl, r2, r3⟩ := reps2 rs
    exact ⟨_, _, _, rfl, r, r2, r3⟩
theorem intsR_of {α : Type} {vs : List V} {us : List T} {f : List Int → R α} {Qa : α → Nat → Prop} {E : Nat → T → Nat → Prop} : Reps G F H vs us → Sat Qa E (intsR us >>= f) b → ∃ ns, vs = ns.map V.int ∧ intsR us = .ok ns ∧ Sat Qa E (f ns) b := by
  intro r
  induction r using Reps.rec (motive_1 := fun _ _ _ => True) generalizing f with
  | nil => exact fun h => ⟨[], rfl, rfl, h⟩
  | cons r rs _ ih =>
    intro h
    cases r with
    | int i =>
      have h : Sat Qa E ((intsR _ >>= fun js => R.ok (i :: js)) >>= f) b := h
      rw [bind_assoc] at h
      obtain ⟨ns, h1, h2, h3⟩ := ih h
      refine ⟨i :: ns, by rw [h1]; rfl, ?_, h3⟩
      show (intsR _ >>= fun js => R.ok (i :: js)) = _
      rw [h2]; rfl
    | _ => exact h.elim
  | _ => trivial
theorem boolsR_of {α : Type} {vs : List V} {us : List T} {f : List Bool → R α} {Qa : α → Nat → Prop} {E : Nat → T → Nat → Prop} : Reps G F H vs us → Sat Qa E (boolsR us >>= f) b → ∃ ns, vs = ns.map V.bl ∧ boolsR us = .ok ns ∧ Sat Qa E (f ns) b := by
  intro r
  induction r using Reps.rec (motive_1 := fun _ _ _ => True) generalizing f with
  | nil => exact fun h => ⟨[], rfl, rfl, h⟩
  | cons r rs _ ih =>
    intro h
    cases r with
    | bl i =>
      have h : Sat Qa E ((boolsR _ >>= fun js => R.ok (i :: js)) >>= f) b := h
      rw [bind_assoc] at h
      obtain ⟨ns, h1, h2, h3⟩ := ih h
      refine ⟨i :: ns, by rw [h1]; rfl, ?_, h3⟩
      show (boolsR _ >>= fun js => R.ok (i :: js)) = _
      rw [h2]; rfl
    | _ => exact h.elim
  | _ => trivial
theorem sumI_eq : ∀ ns : List Int, sumI ns = ns.sum
  | [] => rfl
  | n :: ns => by show n + sumI ns = _; rw [sumI_eq ns, List.sum_cons]
theorem allTrue_eq : ∀ ns : List Bool, allTrue ns = ns.all id
  | [] => rfl
  | n :: ns => by show (n && allTrue ns) = _; rw [allTrue_eq ns, List.all_cons]; rfl
theorem anyTrue_eq : ∀ ns : List Bool, anyTrue ns = ns.any id
  | [] => rfl
  | n :: ns => by show (n || anyTrue ns) = _; rw [anyTrue_eq ns, List.any_cons]; rfl
theorem maxI_ge : ∀ (ns : List Int) (y : Int), y ∈ ns → y ≤ maxI ns
  | [], y, h => nomatch h
  | [x], y, h => by simp at h; subst h; exact Int.le_refl _
  | x :: z :: r, y, h => by
    have ih := maxI_ge (z :: r)
    show y ≤ if maxI (z :: r) < x then x else maxI (z :: r)
    rcases List.mem_cons.mp h with rfl | h
    · split <;> omega
    · have := ih y h
      split <;> omega
theorem minI_le : ∀ (ns : List Int) (y : Int), y ∈ ns → minI ns ≤ y
  | [], y, h => nomatch h
  | [x], y, h => by simp at h; subst h; exact Int.le_refl _
  | x :: z :: r, y, h => by
    have ih := minI_le (z :: r)
    show (if x < minI (z :: r) then x else minI (z :: r)) ≤ y
    rcases List.mem_cons.mp h with rfl | h
    · split <;> omega
    · have := ih y h
      split <;> omega
theorem maxI_mem : ∀ (ns : List Int), ns ≠ [] → maxI ns ∈ ns
  | [], h => absurd rfl h
  | [x], _ => by simp [maxI]
  | x :: z :: r, _ => by
    have ih := maxI_mem (z :: r) (by simp)
    show (if maxI (z :: r) < x then x else maxI (z :: r)) ∈ _
    split
    · exact List.mem_cons_self
    · exact List.mem_cons_of_mem _ ih
theorem minI_mem : ∀ (ns : List Int), ns ≠ [] → minI ns ∈ ns
  | [], h => absurd rfl h
  | [x], _ => by simp [minI]
  | x :: z :: r, _ => by
    have ih := minI_mem (z :: r) (by simp)
    show (if x < minI (z :: r) then x else minI (z :: r)) ∈ _
    split
    · exact List.mem_cons_self
    · exact List.mem_cons_of_mem _ ih
theorem empty_ne {ns : List Int} (h : ¬ ns.isEmpty = true) : ns ≠ [] := by
  cases ns with
  | nil => exact fun _ => h rfl
  | cons _ _ => simp

abbrev rLen (K : PySem.W.Frag) : List V → Hp → VK → Prop := fun xs H Q => (∃ x n, xs = [x] ∧ LenV K x H n ∧ Q (.int n) H) ∨ ∃ a kvs, xs = [V.ref a] ∧ H a = some (.dK kvs) ∧ Q (.int kvs.length) H
theorem bi_len (K : PySem.W.Frag) : BiOk rp .len (rLen K) := by
  intro G F H n us vs Q W ok s r h
  match us, h with
  | [t], h =>
    obtain ⟨v, rfl, r1⟩ := reps1 r
    cases r1 with
    | @lst a ws xs f e q1 =>
      have h : EQ G F H Q ⟨.int xs.length, 2⟩ n := h
      rw [← q1.length] at h
      exact .inl ⟨_, _, rfl, .inl ⟨_, SqL.of e, rfl⟩, fin_sc h ok s rfl (.int _)⟩
    | @tup a ws xs e q1 =>
      have h : EQ G F H Q ⟨.int xs.length, 2⟩ n := h
      rw [← q1.length] at h
      exact .inl ⟨_, _, rfl, .inr ⟨_, SqT.of e, rfl⟩, fin_sc h ok s rfl (.int _)⟩
    | @dct a kvs ys f e q1 =>
      have h : EQ G F H Q ⟨.int (kvs.map fun p => keyT p.1).length, 2⟩ n := h
      rw [List.length_map] at h
      exact .inr ⟨_, _, rfl, e, fin_sc h ok s rfl (.int _)⟩
    | _ => exact h.elim
  | [], h => exact h.elim
  | x :: y :: z, h => exact (by cases x <;> exact h.elim)
abbrev rList (K : PySem.W.Frag) : List V → Hp → VK → Prop := fun xs H Q => (∃ p ys, xs = [.ref p] ∧ (SqL K H p ys ∨ SqT K H p ys) ∧ ∀ l, H l = none → Q (.ref l) (upd H l (.lst ys))) ∨ ∃ (a : Addr) (kvs : List (Key × V)), xs = [.ref a] ∧ Rd H a (.dK kvs) ∧ ∀ p, H p = none → Q (.ref p) (upd H p (.lst (kvs.map fun kv => kV kv.1)))
theorem rep_key (k : Key) : Rep G F H (kV k) (keyT k) := by
  cases k
  · exact .int _
  · exact .str _
theorem reps_keys (kvs : List (Key × V)) : Reps G F H (kvs.map fun kv => kV kv.1) (kvs.map fun p => keyT p.1) := by
  induction kvs with
  | nil => exact .nil
  | cons p r ih => exact .cons (rep_key _) ih
theorem bi_list (K : PySem.W.Frag) : BiOk rp .list (rList K) := by
  intro G F H n us vs Q W ok s r h
  match us, h with
  | [t], h =>
    obtain ⟨v, rfl, r1⟩ := reps1 r
    cases r1 with
    | lst f e q1 => exact .inl ⟨_, _, rfl, .inl (SqL.of e), fin_lst h ok s q1⟩
    | tup e q1 => exact .inl ⟨_, _, rfl, .inr (SqT.of e), fin_lst h ok s q1⟩
    | dct f e r => exact .inr ⟨_, _, rfl, Rd.of e, fin_lst h ok s (reps_keys _)⟩
    | _ => exact h.elim
  | [], h => exact h.elim
  | x :: y :: z, h => exact (by cases x <;> exact h.elim)
theorem bi_tuple (K : PySem.W.Frag) : BiOk rp .tuple (fun xs H Q => ∃ p ys, xs = [.ref p] ∧ ((SqL K H p ys ∧ ∀ l, H l = none → Q (.ref l) (upd H l (.tup ys))) ∨ (SqT K H p ys ∧ Q (.ref p) H))) := by
  intro G F H n us vs Q W ok s r h
  match us, h with
  | [t], h =>
    obtain ⟨v, rfl, r1⟩ := reps1 r
    cases r1 with
    | lst f e q1 => exact ⟨_, _, rfl, .inl ⟨SqL.of e, fin_tup h ok s q1⟩⟩
    | tup e q1 => exact ⟨_, _, rfl, .inr ⟨SqT.of e, fin_rd h ok s (.tup e q1)⟩⟩
    | _ => exact h.elim
  | [], h => exact h.elim
  | x :: y :: z, h => exact (by cases x <;> exact h.elim)
theorem bi_int : BiOk rp .int (fun xs H Q => (∃ i, xs = [.int i] ∧ Q (.int i) H) ∨ ∃ k, xs = [.bl k] ∧ Q (.int (if k then 1 else 0)) H) := by
  intro G F H n us vs Q W ok s r h
  match us, h with
  | [t], h =>
    obtain ⟨v, rfl, r1⟩ := reps1 r
    cases r1 with
    | int i => exact .inl ⟨_, rfl, fin_sc h ok s rfl (.int _)⟩
    | _ => exact h.elim
  | [], h => exact h.elim
  | x :: y :: z, h => exact (by cases x <;> exact h.elim)
theorem bi_abs : BiOk rp .abs (fun xs H Q => ∃ i, xs = [.int i] ∧ Q (.int (if i < 0 then -i else i)) H) := by
  intro G F H n us vs Q W ok s r h
  match us, h with
  | [t], h =>
    obtain ⟨v, rfl, r1⟩ := reps1 r
    cases r1 with
    | int i => exact ⟨_, rfl, fin_sc h ok s rfl (.int _)⟩
    | _ => exact h.elim
  | [], h => exact h.elim
  | x :: y :: z, h => exact (by cases x <;> exact h.elim)
def rSumA (K : PySem.W.Frag) : List V → Hp → VK → Prop := fun vs H Q => ∃ (a : Addr) (ns : List Int), vs = [V.ref a] ∧ (SqL K H a (ns.map V.int) ∨ SqT K H a (ns.map V.int)) ∧ Q (.int ns.sum) H
theorem cr_sumA (hc : X.calm = true) : CallR X (.builtin "sum") (rSumA X.K) := by
  intro pins s σ H vs us Q I r h
  obtain ⟨a, ns, rfl, hs, q⟩ := h
  rw [Vals.ref1 r]
  rcases hs with hs | hs
  · obtain ⟨its, rv, hl, _⟩ := I.list hs
    exact sum_raw (I.ok.hd hc) hl.isList rv.ints fun h' tk t' hk => ⟨.int _, H, I.kept hk, ⟨_, rfl⟩, q⟩
  · obtain ⟨its, rv, ht, _⟩ := I.tuple hs
    have hi := rv.ints
    obtain ⟨xs, e⟩ := hi.allInts.items
    have hn : numsOf (intItems xs).toList = ns := by rw [← e]; exact hi.numsOf
    rw [nums_intItems] at hn
    have ht : s.heap.IsTuple a its.toArray := ht
    rw [e] at ht
    refine PySem.W.ktm_sumG (I.ok.hd hc) ht fun h' tk t' hk => ?_
    rw [preSum_eq, List.take_of_length_le (by simp), hn]
    exact ⟨.int _, H, I.kept hk, ⟨_, rfl⟩, q⟩
theorem bi_sum (K : PySem.W.Frag) : BiOk rp .sum (rSumA K) := by
  intro G F H n us vs Q W ok s r h
  match us, h with
  | [t], h =>
    obtain ⟨v, rfl, r1⟩ := reps1 r
    cases r1 with
    | lst f e q1 =>
      obtain ⟨ns, rfl, h2, h3⟩ := intsR_of q1 h
      rw [sumI_eq] at h3
      exact ⟨_, ns, rfl, .inl (SqL.of e), fin_sc h3 ok s rfl (.int _)⟩
    | tup e q1 =>
      obtain ⟨ns, rfl, h2, h3⟩ := intsR_of q1 h
      rw [sumI_eq] at h3
      exact ⟨_, ns, rfl, .inr (SqT.of e), fin_sc h3 ok s rfl (.int _)⟩
    | _ => exact h.elim
  | [], h => exact h.elim
  | x :: y :: z, h => exact (by cases x <;> exact h.elim)
theorem bi_all (K : PySem.W.Frag) : BiOk rp .all (rAll K) := by
  intro G F H n us vs Q W ok s r h
  match us, h with
  | [t], h =>
    obtain ⟨v, rfl, r1⟩ := reps1 r
    cases r1 with
    | lst f e q1 =>
      obtain ⟨ns, rfl, h2, h3⟩ := boolsR_of q1 h
      rw [allTrue_eq] at h3
      exact ⟨_, ns, rfl, SqL.of e, fin_sc h3 ok s rfl (.bl _)⟩
    | _ => exact h.elim
  | [], h => exact h.elim
  | x :: y :: z, h => exact (by cases x <;> exact h.elim)
theorem bi_any (K : PySem.W.Frag) : BiOk rp .any (rAny K) := by
  intro G F H n us vs Q W ok s r h
  match us, h with
  | [t], h =>
    obtain ⟨v, rfl, r1⟩ := reps1 r
    cases r1 with
    | lst f e q1 =>
      obtain ⟨ns, rfl, h2, h3⟩ := boolsR_of q1 h
      rw [anyTrue_eq] at h3
      exact ⟨_, ns, rfl, SqL.of e, fin_sc h3 ok s rfl (.bl _)⟩
    | _ => exact h.elim
  | [], h => exact h.elim
  | x :: y :: z, h => exact (by cases x <;> exact h.elim)
abbrev rMinB (K : PySem.W.Frag) : List V → Hp → VK → Prop := fun xs H Q => rMin K xs H Q ∨ ∃ i j, xs = [.int i, .int j] ∧ Q (.int (if j < i then j else i)) H
abbrev rMaxB (K : PySem.W.Frag) : List V → Hp → VK → Prop := fun xs H Q => rMax K xs H Q ∨ ∃ i j, xs = [.int i, .int j] ∧ Q (.int (if j > i then j else i)) H
theorem int_antisymm {ns : List Int} {m k : Int} (h1 : m ∈ ns) (h2 : ∀ y, y ∈ ns → y ≤ m) (h3 : k ∈ ns) (h4 : ∀ y, y ∈ ns → y ≤ k) : m = k := Int.le_antisymm (h4 m h1) (h2 k h3)
theorem bi_max (K : PySem.W.Frag) : BiOk rp .max (rMaxB K) := by
  intro G F H n us vs Q W ok s r h
  match us, h with
  | [t], h =>
    obtain ⟨v, rfl, r1⟩ := reps1 r
    cases r1 with
    | lst f e q1 =>
      obtain ⟨ns, rfl, h2, h3⟩ := intsR_of q1 h
      by_cases hn : ns.isEmpty = true
      · rw [if_pos hn] at h3; exact h3.elim
      · rw [if_neg hn] at h3
        have hne := empty_ne hn
        refine .inl ⟨_, ns, rfl, SqL.of e, List.length_pos_iff.mpr hne, fun m hm hy => ?_⟩
        rw [int_antisymm hm hy (maxI_mem ns hne) (maxI_ge ns)]
        exact fin_sc h3 ok s rfl (.int _)
    | _ => exact h.elim
  | [t, u], h =>
    obtain ⟨v, w, rfl, r1, r2⟩ := reps2 r
    cases r1 with
    | int i =>
      cases r2 with
      | int j => exact .inr ⟨_, _, rfl, fin_sc h ok s rfl (.int _)⟩
      | _ => exact h.elim
    | _ => exact h.elim
  | [], h => exact h.elim
  | x :: y :: z :: zs, h => exact (by cases x <;> cases y <;> exact h.elim)
theorem bi_min (K : PySem.W.Frag) : BiOk rp .min (rMinB K) := by
  intro G F H n us vs Q W ok s r h
  match us, h with
  | [t], h =>
    obtain ⟨v, rfl, r1⟩ := reps1 r
    cases r1 with
    | lst f e q1 =>
      obtain ⟨ns, rfl, h2, h3⟩ := intsR_of q1 h
      by_cases hn : ns.isEmpty = true
      · rw [if_pos hn] at h3; exact h3.elim
      · rw [if_neg hn] at h3
        have hne := empty_ne hn
        refine .inl ⟨_, ns, rfl, SqL.of e, List.length_pos_iff.mpr hne, fun m hm hy => ?_⟩
        rw [Int.le_antisymm (hy _ (minI_mem ns hne)) (minI_le ns m hm)]
        exact fin_sc h3 ok s rfl (.int _)
    | _ => exact h.elim
  | [t, u], h =>
    obtain ⟨v, w, rfl, r1, r2⟩ := reps2 r
    cases r1 with
    | int i =>
      cases r2 with
      | int j => exact .inr ⟨_, _, rfl, fin_sc h ok s rfl (.int _)⟩
      | _ => exact h.elim
    | _ => exact h.elim
  | [], h => exact h.elim
  | x :: y :: z :: zs, h => exact (by cases x <;> cases y <;> exact h.elim)
end
end TM

set_option Elab.async false
set_option linter.all false
set_option maxRecDepth 100000
set_option maxHeartbeats 4000000
namespace TM
open PySem PySem.Spec L2

def W0 : XW := fun _ _ _ => False
theorem sat_noexc {α : Type} {Qa : α → Nat → Prop} {E : Nat → T → Nat → Prop} : ∀ {r : R α} {b : Nat}, Sat Qa E r.noexc b → Sat Qa (fun _ _ _ => False) r b
  | .ok _, _, h => h
  | .draw _ _, _, ⟨h1, h2, h3⟩ => ⟨h1, h2, fun i hi => sat_noexc (h3 i hi)⟩
  | .exc _ _, _, h => h
  | .stuck, _, h => h

section
variable {X : Cx} {rp : T → Str} {call : Nat → List T → R Val} {W : XW} {G : Gb} {F F1 : Fz} {H H1 : Hp} {b b1 : Nat} {σ : St} {τ : TM.Env} {Q : VK} {pos p p2 apos tpos : Pos} {e ea eb ec tg : Expr} {es elts : List Expr} {A B C : E} {As Bs : Es} {I : It} {kk : Nat}

/-! ### what is walked -/
/-- J gives the trees xs, one a turn, from any heap where what stood frozen stands -/
def TW (G : Gb) (F : Fz) (H : Hp) (J : L2.It) (xs : List T) : Prop :=
  ∀ (F' : Fz) (H' : Hp) (b' : Nat), FOk G F' H' → SInv G b' H' → Lift G F F' H H' →
    (∀ i t, xs[i]? = some t → J.go i H' ∧ ∀ x H'', J.yld i H' x H'' → Stp G F' H' F' H'' b' ∧ Rep G F' H'' x t) ∧ J.stop xs.length H'
def tI (rp : T → Str) (call : Nat → List T → R Val) (W : XW) (I : It) : TI := fun σ H R => ∃ G F τ b, Pre G F H σ τ b ∧
  Sat (fun xs b' => ∀ J H1 F1, Stp G F H F1 H1 b' → TW G F1 H1 J xs → R J H1) (ES G F H W) (evI rp call I τ) b
theorem PI.imp {t t' : TI} (h : PI X tg e t) (i : ∀ σ H R, t' σ H R → t σ H R) : PI X tg e t' := ⟨fun pins s σ H R I q => h.run pins s σ H R I (i σ H R q)⟩
theorem PI.or {t t' : TI} (h : PI X tg e t) (h' : PI X tg e t') : PI X tg e (fun σ H R => t σ H R ∨ t' σ H R) := ⟨fun pins s σ H R I q => by
  rcases q with q | q
  · exact h.run pins s σ H R I q
  · exact h'.run pins s σ H R I q⟩
abbrev SI (X : Cx) (rp : T → Str) (call : Nat → List T → R Val) (W : XW) (tg e : Expr) (I : It) : Prop := PI X tg e (tI rp call W I)

theorem tw_list {K : PySem.W.Frag} {a : Addr} {vs : List V} {us : List T} (f : F a) (e : H a = some (.lst vs)) (r : Reps G F H vs us) : TW G F H (Itl K a) us := by
  intro F' H' b' ok s L
  have e' := L.ho a _ e (.inl f)
  have r' := r.lift L
  refine ⟨fun i t h => ?_, ⟨vs, SqL.of e', by rw [r.length]; exact Nat.le_refl _⟩⟩
  obtain ⟨v, h1, h2⟩ := r'.get h
  refine ⟨⟨vs, v, SqL.of e', h1⟩, fun x H'' ⟨q1, q2⟩ => ?_⟩
  subst q1
  have := q2 vs (SqL.of e')
  rw [h1] at this
  cases this
  exact ⟨Stp.refl ok s, h2⟩
theorem tw_tup {K : PySem.W.Frag} {a : Addr} {vs : List V} {us : List T} (e : H a = some (.tup vs)) (r : Reps G F H vs us) : TW G F H (Itt K a) us := by
  intro F' H' b' ok s L
  have e' := L.ho a _ e (.inr ⟨_, rfl⟩)
  have r' := r.lift L
  refine ⟨fun i t h => ?_, ⟨vs, SqT.of e', by rw [r.length]; exact Nat.le_refl _⟩⟩
  obtain ⟨v, h1, h2⟩ := r'.get h
  refine ⟨⟨vs, v, SqT.of e', h1⟩, fun x H'' ⟨q1, q2⟩ => ?_⟩
  subst q1
  have := q2 vs (SqT.of e')
  rw [h1] at this
  cases this
  exact ⟨Stp.refl ok s, h2⟩
theorem rngT_get : ∀ (n : Nat) (lo : Int) (i : Nat), (rngT lo n)[i]? = if i < n then some (.int (lo + i)) else none
  | 0, lo, i => by simp [rngT]
  | n + 1, lo, 0 => by simp [rngT]
  | n + 1, lo, i + 1 => by
    show (rngT (lo + 1) n)[i]? = _
    rw [rngT_get n]
    by_cases h : i < n
    · rw [if_pos h, if_pos (by omega)]
      congr 2; omega
    · rw [if_neg h, if_neg (by omega)]
theorem rngT_length : ∀ (n : Nat) (lo : Int), (rngT lo n).length = n
  | 0, _ => rfl
  | n + 1, lo => congrArg (· + 1) (rngT_length n (lo + 1))
theorem tw_rng {lo : Int} {n : Nat} : TW G F H (Itr lo n) (rngT lo n) := by
  intro F' H' b' ok s L
  refine ⟨fun i t h => ?_, by rw [rngT_length]; exact Nat.le_refl _⟩
  rw [rngT_get] at h
  by_cases hi : i < n
  · rw [if_pos hi] at h
    cases h
    refine ⟨hi, fun x H'' ⟨q1, q2⟩ => ?_⟩
    subst q1 q2
    exact ⟨Stp.refl ok s, .int _⟩
  · rw [if_neg hi] at h; cases h
theorem enumT_get : ∀ (us : List T) (n i : Nat), (enumT n us)[i]? = us[i]?.map fun t => .tup [.int ((n + i : Nat)), t]
  | [], n, i => by simp [enumT]
  | u :: us, n, 0 => by simp [enumT]
  | u :: us, n, i + 1 => by
    show (enumT (n + 1) us)[i]? = _
    rw [enumT_get us]
    have : n + 1 + i = n + (i + 1) := by omega
    simp [this]
theorem enumT_length : ∀ (us : List T) (n : Nat), (enumT n us).length = us.length
  | [], _ => rfl
  | u :: us, n => congrArg (· + 1) (enumT_length us (n + 1))
theorem zipT_get : ∀ (us ws : List T) (i : Nat) (t : T), (zipT us ws)[i]? = some t → ∃ x y, us[i]? = some x ∧ ws[i]? = some y ∧ t = .tup [x, y]
  | [], _, i, t, h => by simp [zipT] at h
  | _ :: _, [], i, t, h => by simp [zipT] at h
  | u :: us, w :: ws, 0, t, h => by
    have h : some (T.tup [u, w]) = some t := h
    cases h
    exact ⟨u, w, rfl, rfl, rfl⟩
  | u :: us, w :: ws, i + 1, t, h => by
    obtain ⟨x, y, h1, h2, h3⟩ := zipT_get us ws i t h
    exact ⟨x, y, by simpa using h1, by simpa using h2, h3⟩
theorem zipT_length : ∀ (us ws : List T), us.length ≤ (zipT us ws).length ∨ ws.length ≤ (zipT us ws).length
  | [], _ => .inl (Nat.zero_le _)
  | _ :: _, [] => .inr (Nat.zero_le _)
  | u :: us, w :: ws => (zipT_length us ws).imp Nat.succ_le_succ Nat.succ_le_succ
/-- a new pair of what is there -/
theorem pair_new {p : Addr} {v w : V} {x y : T} (ok : FOk G F H) (s : SInv G b H) (hp : H p = none) (r1 : Rep G F H v x) (r2 : Rep G F H w y) : Stp G F H F (upd H p (.tup [v, w])) b ∧ Rep G F (upd H p (.tup [v, w])) (.ref p) (.tup [x, y]) :=
  ⟨stp_new ok s hp, .tup upd_same (.cons (r1.lift (lift_new hp)) (.cons (r2.lift (lift_new hp)) .nil))⟩
theorem tw_enum {K : PySem.W.Frag} {a : Addr} {vs : List V} {us : List T} (f : F a) (e : H a = some (.lst vs)) (r : Reps G F H vs us) : TW G F H (Ite K a) (enumT 0 us) := by
  intro F' H' b' ok s L
  have e' := L.ho a _ e (.inl f)
  have r' := r.lift L
  refine ⟨fun i t h => ?_, ⟨vs, SqL.of e', by rw [r.length, enumT_length]; exact Nat.le_refl _⟩⟩
  rw [enumT_get] at h
  cases hu : us[i]? with
  | none => rw [hu] at h; cases h
  | some u =>
    rw [hu] at h
    simp only [Option.map_some, Nat.zero_add, Option.some.injEq] at h
    subst h
    obtain ⟨v, h1, h2⟩ := r'.get hu
    refine ⟨⟨vs, v, SqL.of e', h1⟩, fun x H'' ⟨p, y, q1, q2, q3, q4⟩ => ?_⟩
    have := q4 vs (SqL.of e')
    rw [h1] at this
    cases this
    subst q1 q3
    exact pair_new ok s q2 (.int _) h2
theorem tw_zip {K : PySem.W.Frag} {a c : Addr} {vs ws : List V} {us ys : List T} (f : F a) (e : H a = some (.lst vs)) (r : Reps G F H vs us) (f2 : F c) (e2 : H c = some (.lst ws)) (r2 : Reps G F H ws ys) : TW G F H (Itz K a c) (zipT us ys) := by
  intro F' H' b' ok s L
  have e' := L.ho a _ e (.inl f)
  have e2' := L.ho c _ e2 (.inl f2)
  refine ⟨fun i t h => ?_, ⟨vs, ws, SqL.of e', SqL.of e2', by rw [r.length, r2.length]; exact zipT_length us ys⟩⟩
  obtain ⟨x, y, hx, hy, rfl⟩ := zipT_get us ys i t h
  obtain ⟨v, h1, h2⟩ := (r.lift L).get hx
  obtain ⟨w, h3, h4⟩ := (r2.lift L).get hy
  refine ⟨⟨vs, ws, v, w, SqL.of e', SqL.of e2', h1, h3⟩, fun x H'' ⟨p, m, n, q1, q2, q3, q4, q5⟩ => ?_⟩
  have z1 := q4 vs (SqL.of e')
  have z2 := q5 ws (SqL.of e2')
  rw [h1] at z1
  rw [h3] at z2
  cases z1
  cases z2
  subst q1 q3
  exact pair_new ok s q2 h2 h4
theorem tw_zipT {K : PySem.W.Frag} {a c : Addr} {vs ws : List V} {us ys : List T} (e : H a = some (.tup vs)) (r : Reps G F H vs us) (e2 : H c = some (.tup ws)) (r2 : Reps G F H ws ys) : TW G F H (RZ.ItzT K a c) (zipT us ys) := by
  intro F' H' b' ok s L
  have e' := L.ho a _ e (.inr ⟨_, rfl⟩)
  have e2' := L.ho c _ e2 (.inr ⟨_, rfl⟩)
  refine ⟨fun i t h => ?_, ⟨vs, ws, SqT.of e', SqT.of e2', by rw [r.length, r2.length]; exact zipT_length us ys⟩⟩
  obtain ⟨x, y, hx, hy, rfl⟩ := zipT_get us ys i t h
  obtain ⟨v, h1, h2⟩ := (r.lift L).get hx
  obtain ⟨w, h3, h4⟩ := (r2.lift L).get hy
  refine ⟨⟨vs, ws, v, w, SqT.of e', SqT.of e2', h1, h3⟩, fun x H'' ⟨p, m, n, q1, q2, q3, q4, q5⟩ => ?_⟩
  have z1 := q4 vs (SqT.of e')
  have z2 := q5 ws (SqT.of e2')
  rw [h1] at z1
  rw [h3] at z2
  cases z1
  cases z2
  subst q1 q3
  exact pair_new ok s q2 h2 h4

/-! ### what is walked, as it is written -/
theorem oneI {f : Val → R (List T)} {R : L2.It → Hp → Prop} (pre : Pre G F H σ τ b) {Rq : V → Hp → Prop}
    (h : Sat (fun xs b' => ∀ J H1 F1, Stp G F H F1 H1 b' → TW G F1 H1 J xs → R J H1) (ES G F H W) (do let x ← evE rp call A τ; f x) b)
    (k : ∀ x v F1 H1 b1, Stp G F H F1 H1 b1 → Rep G F1 H1 v x.t → Sat (fun xs b' => ∀ J H2 F2, Stp G F1 H1 F2 H2 b' → TW G F2 H2 J xs → R J H2) (ES G F1 H1 W) (f x) b1 → Rq v H1) : tE rp call W A σ H Rq :=
  one pre h (fun _ _ _ z => z) fun x v F1 H1 b1 st r hx => k x v F1 H1 b1 st r (hx.imp (fun xs b' q J H2 F2 st2 => q J H2 F2 (st.trans pre.inv st2)) fun _ _ _ z => z.next pre.inv st)

def iSeq (K : PySem.W.Frag) (tl : TE) : TI := fun σ H R => tl σ H fun x H1 => ∃ a, x = .ref a ∧ (((∃ xs, SqL K H1 a xs) ∧ R (Itl K a) H1) ∨ ((∃ xs, SqT K H1 a xs) ∧ R (Itt K a) H1))
theorem pi_seq {tl : TE} (hl : PE X e tl) : PI X tg e (iSeq X.K tl) := by
  refine ⟨fun pins s σ H R I h => ?_⟩
  refine thn (hl.run pins s σ H _ I h) fun v s1 ⟨x, H1, I1, r1, q1⟩ => ?_
  obtain ⟨a, e, q⟩ := q1
  subst e
  cases r1
  have fr : ∀ c ∈ [s1.heap.objs.size], FpOk X pins H1 c := fun c hc => by
    have e : c = s1.heap.objs.size := by simpa using hc
    subst e
    exact I1.fpOk (Nat.le_refl _) (I1.hok.fresh (Nat.le_refl _))
  rcases q with ⟨⟨xs, hq⟩, q⟩ | ⟨⟨xs, hq⟩, q⟩
  · obtain ⟨its, rv, p, hz⟩ := I1.list hq
    refine wpAny_pyIter_list p.isList ?_
    exact ⟨s1.heap.objs.size, [s1.heap.objs.size], _, _, H1, rfl, I1.kept (t' := s1.toks) fun b o e => Heap.get?_push_of_some _ e, turn_list a _, ⟨_, Heap.get?_push_size _ rfl, rfl, rfl⟩, fr, q⟩
  · obtain ⟨its, rv, p, hz⟩ := I1.tuple hq
    refine wpAny_pyIter_tuple (show s1.heap.IsTuple a its.toArray from p) ?_
    exact ⟨s1.heap.objs.size, [s1.heap.objs.size], _, _, H1, rfl, I1.kept (t' := s1.toks) fun b o e => Heap.get?_push_of_some _ e, turn_tuple a _, ⟨_, Heap.get?_push_size _ rfl, rfl, rfl⟩, fr, q⟩
theorem si_seq (ha : SE X rp call W ea A) : SI X rp call W tg ea (.seq A) := by
  refine PI.imp (pi_seq ha) fun σ H R ⟨G, F, τ, b, pre, h⟩ => ?_
  refine oneI pre h fun ⟨x, lx⟩ v F1 H1 b1 st r hx => ?_
  cases r with
  | lst f e q1 => exact ⟨_, rfl, .inl ⟨⟨_, SqL.of e⟩, hx _ H1 F1 (Stp.refl st.ok st.inv) (tw_list f e q1)⟩⟩
  | tup e q1 => exact ⟨_, rfl, .inr ⟨⟨_, SqT.of e⟩, hx _ H1 F1 (Stp.refl st.ok st.inv) (tw_tup e q1)⟩⟩
  | _ => exact hx.elim
theorem si_rng1 (hg : Gl X "range") (hm : X.mg "range" = none) (ha : SE X rp call W ea A) (hs : starEach [ea] X.env = [(false, eval ea X.env)]) : SI X rp call W tg (.Call (.Name "range" p) [ea] [] pos) (.rng1 A) := by
  refine PI.imp (pi_range1 hg hm (pa_cons ha pa_nil hs) hs) fun σ H R ⟨G, F, τ, b, pre, h⟩ => ?_
  refine oneI pre h fun ⟨x, lx⟩ v F1 H1 b1 st r hx => ?_
  cases r with
  | int i =>
    obtain ⟨hl, hx⟩ := sat_ite hx
    refine ⟨i, rfl, by omega, by omega, ?_⟩
    exact hx _ H1 F1 (Stp.refl st.ok st.inv) tw_rng
  | _ => exact hx.elim
theorem twoI {B : E} {f : Val → Val → R (List T)} {R : L2.It → Hp → Prop} (pre : Pre G F H σ τ b) {Rq : V → V → Hp → Prop}
    (h : Sat (fun xs b' => ∀ J H1 F1, Stp G F H F1 H1 b' → TW G F1 H1 J xs → R J H1) (ES G F H W) (do let x ← evE rp call A τ; let y ← evE rp call B τ; f x y) b)
    (k : ∀ x y v w F2 H2 b2, Stp G F H F2 H2 b2 → Rep G F2 H2 v x.t → Rep G F2 H2 w y.t → Sat (fun xs b' => ∀ J H3 F3, Stp G F2 H2 F3 H3 b' → TW G F3 H3 J xs → R J H3) (ES G F2 H2 W) (f x y) b2 → Rq v w H2) : tE rp call W A σ H fun v H1 => tE rp call W B σ H1 fun w H2 => Rq v w H2 :=
  oneI pre h fun x v F1 H1 b1 st r hx => oneI (pre.next st) hx fun y w F2 H2 b2 st2 r2 hy => k x y v w F2 H2 b2 (st.trans pre.inv st2) (r.lift (st2.lift st.inv st.ok)) r2 hy
theorem si_rng2 (hg : Gl X "range") (hm : X.mg "range" = none) (ha : SE X rp call W ea A) (hb : SE X rp call W eb B) (hs : starEach [ea, eb] X.env = [(false, eval ea X.env), (false, eval eb X.env)]) (hs2 : starEach [eb] X.env = [(false, eval eb X.env)]) :
    SI X rp call W tg (.Call (.Name "range" p) [ea, eb] [] pos) (.rng2 A B) := by
  refine PI.imp (pi_range2 hg hm (pa_cons ha (pa_cons hb pa_nil hs2) (by rw [hs, hs2])) hs hs2) fun σ H R ⟨G, F, τ, b, pre, h⟩ => ?_
  refine twoI pre h fun ⟨x, lx⟩ ⟨y, ly⟩ v w F2 H2 b2 st r1 r2 hx => ?_
  cases r1 with
  | int i =>
    cases r2 with
    | int j =>
      obtain ⟨hl, hx⟩ := sat_ite hx
      refine ⟨i, j, rfl, by omega, ?_⟩
      exact hx _ H2 F2 (Stp.refl st.ok st.inv) tw_rng
    | _ => exact hx.elim
  | _ => exact hx.elim
theorem seqOf_lst {α : Type} {f : List T → R α} {Qa : α → Nat → Prop} {E : Nat → T → Nat → Prop} {xs : List T} (h : Sat Qa E (seqOf (.lst xs) >>= f) b) : Sat Qa E (f xs) b := h
theorem si_zip (hg : Gl X "zip") (hm : X.mg "zip" = none) (ha : SE X rp call W ea A) (hb : SE X rp call W eb B) (hs : starEach [ea, eb] X.env = (false, eval ea X.env) :: starEach [eb] X.env) (hs2 : starEach [eb] X.env = (false, eval eb X.env) :: starEach [] X.env) :
    SI X rp call W (.Tuple elts kk tpos) (.Call (.Name "zip" p) [ea, eb] [] pos) (.zip A B) := by
  refine PI.imp (RZ.pi_zipA hg hm (pa_cons ha (pa_cons hb pa_nil hs2) hs) hs (by rw [hs2]; rfl)) fun σ H R ⟨G, F, τ, b, pre, h⟩ => ?_
  refine twoI pre h fun ⟨x, lx⟩ ⟨y, ly⟩ v w F2 H2 b2 st r1 r2 hx => ?_
  cases r1 with
  | lst f e q1 =>
    cases r2 with
    | lst f2 e2 q2 => exact ⟨_, _, _, _, rfl, .inl ⟨SqL.of e, SqL.of e2, hx _ H2 F2 (Stp.refl st.ok st.inv) (tw_zip f e q1 f2 e2 q2)⟩⟩
    | _ => exact hx.elim
  | tup e q1 =>
    cases r2 with
    | tup e2 q2 => exact ⟨_, _, _, _, rfl, .inr ⟨SqT.of e, SqT.of e2, hx _ H2 F2 (Stp.refl st.ok st.inv) (tw_zipT e q1 e2 q2)⟩⟩
    | _ => exact hx.elim
  | _ => cases y <;> exact hx.elim
theorem si_bad : SI X rp call W tg e .bad := ⟨fun pins s σ H R I ⟨G, F, τ, b, pre, h⟩ => h.elim⟩
theorem se_bad : SE X rp call W e .bad := ⟨fun pins s σ H R I ⟨G, F, τ, b, pre, h⟩ => h.elim⟩
end
end TM

set_option Elab.async false
set_option linter.all false
set_option maxRecDepth 100000
set_option maxHeartbeats 4000000
namespace TM
open PySem PySem.Spec L2
section
variable {X : Cx} {rp : T → Str} {call : Nat → List T → R Val} {W : XW} {G : Gb} {F F1 : Fz} {H H1 : Hp} {b b1 : Nat} {σ : St} {τ : TM.Env} {Q : VK} {pos p p2 apos tpos : Pos} {e ea eb ec : Expr} {es elts : List Expr} {A B C : E} {As Bs : Es} {I : It} {kk : Nat}

/-! ### slots -/
theorem vw_set {i : Nat} {v : V} {u : Val} (h : Vw G F H σ τ) (r : Rep G F H v u.t) : Vw G F H (σ.set i (some v)) (τ.set i (some u)) := by
  refine ⟨by rw [List.length_set, List.length_set]; exact h.1, fun j w e => ?_⟩
  by_cases hj : i = j
  · subst hj
    by_cases hi : i < τ.length
    · rw [List.getElem?_set_self hi] at e
      cases e
      exact ⟨v, by rw [List.getElem?_set_self (by rw [← h.1]; exact hi)], r⟩
    · rw [List.getElem?_eq_none (by simpa using hi)] at e; cases e
  · rw [List.getElem?_set_ne hj] at e
    obtain ⟨z, h1, h2⟩ := h.2 j w e
    exact ⟨z, by rw [List.getElem?_set_ne hj]; exact h1, h2⟩
theorem vw_drop {i : Nat} {o : Option V} (h : Vw G F H σ τ) : Vw G F H (σ.set i o) (τ.set i none) := by
  refine ⟨by rw [List.length_set, List.length_set]; exact h.1, fun j w e => ?_⟩
  by_cases hj : i = j
  · subst hj
    by_cases hi : i < τ.length
    · rw [List.getElem?_set_self hi] at e; cases e
    · rw [List.getElem?_eq_none (by simpa using hi)] at e; cases e
  · rw [List.getElem?_set_ne hj] at e
    obtain ⟨z, h1, h2⟩ := h.2 j w e
    exact ⟨z, by rw [List.getElem?_set_ne hj]; exact h1, h2⟩
theorem vw_forget {i : Nat} (h : Vw G F H σ τ) : Vw G F H σ (τ.set i none) := by
  refine ⟨by rw [List.length_set]; exact h.1, fun j w e => ?_⟩
  by_cases hj : i = j
  · subst hj
    by_cases hi : i < τ.length
    · rw [List.getElem?_set_self hi] at e; cases e
    · rw [List.getElem?_eq_none (by simpa using hi)] at e; cases e
  · rw [List.getElem?_set_ne hj] at e
    exact h.2 j w e
theorem vw_wipe (h : Vw G F H σ τ) : ∀ is : List Nat, Vw G F H (wipe σ is) (wipes is τ)
  | [] => h
  | i :: is => vw_drop (vw_wipe h is)
theorem vw_lift (h : Vw G F H σ τ) (L : Lift G F F1 H H1) : Vw G F1 H1 σ τ := ⟨h.1, fun i u e => by
  obtain ⟨v, h1, h2⟩ := h.2 i u e
  exact ⟨v, h1, h2.lift L⟩⟩
theorem wipe_set {i : Nat} {v : Option V} : ∀ {is : List Nat} {σ' : St}, i ∈ is → wipe (σ'.set i v) is = wipe σ' is
  | j :: is, σ', h => by
    unfold wipe
    by_cases hm : i ∈ is
    · rw [wipe_set hm]
    · have e : i = j := by
        rcases List.mem_cons.mp h with e | e
        · exact e
        · exact absurd e hm
      subst e
      have : ∀ (is : List Nat) (s : St), i ∉ is → wipe (s.set i v) is = (wipe s is).set i v := by
        intro is
        induction is with
        | nil => intro s _; rfl
        | cons k r ih =>
          intro s hk
          unfold wipe
          rw [ih s (fun z => hk (List.mem_cons_of_mem _ z)), List.set_comm]
          exact fun z => hk (by rw [z]; exact List.mem_cons_self)
      rw [this is σ' hm, List.set_set]
theorem wipe_idem : ∀ (is : List Nat) (σ' : St), wipe (wipe σ' is) is = wipe σ' is
  | [], _ => rfl
  | i :: is, σ' => by
    show (wipe ((wipe σ' is).set i none) is).set i none = (wipe σ' is).set i none
    by_cases hm : i ∈ is
    · rw [wipe_set hm, wipe_idem is]
    · have : ∀ (is : List Nat) (s : St), i ∉ is → wipe (s.set i none) is = (wipe s is).set i none := by
        intro is
        induction is with
        | nil => intro s _; rfl
        | cons k r ih =>
          intro s hk
          unfold wipe
          rw [ih s (fun z => hk (List.mem_cons_of_mem _ z)), List.set_comm]
          exact fun z => hk (by rw [z]; exact List.mem_cons_self)
      rw [this is _ hm, List.set_set, wipe_idem is]

/-! ### targets of shared things -/
def gNames : List Nat → TGs
  | [] => gNil
  | i :: is => gCons (gName i) (gNames is)
def gTg (K : PySem.W.Frag) : Tg → TG
  | .nm i => gName i
  | .tp is => gTup K is.length (gNames is)
def Tg.slots : Tg → List Nat
  | .nm i => [i]
  | .tp is => is
/-- storing shared things at the names -/
theorem names_ok {α : Type} {Qa : α → Nat → Prop} {E : Nat → T → Nat → Prop} {f : TM.Env → R α} {R : St → Hp → Prop} : ∀ {is : List Nat} {vs : List V} {us : List T} {σ : St} {τ : TM.Env}, Vw G F H σ τ → Reps G F H vs us → Sat Qa E (setAll is us 0 τ >>= f) b →
    (∀ σ' τ', Vw G F H σ' τ' → (∀ own : List Nat, (∀ i ∈ is, i ∈ own) → wipe σ' own = wipe σ own) → Sat Qa E (f τ') b → R σ' H) → gNames is vs σ H R
  | [], _, _, σ, τ, vw, .nil, h, k => ⟨rfl, k σ τ vw (fun _ _ => rfl) h⟩
  | [], _, _, σ, τ, vw, .cons _ _, h, k => h.elim
  | i :: is, _, _, σ, τ, vw, .nil, h, k => h.elim
  | i :: is, _, _, σ, τ, vw, .cons (v := v) (vs := vs) (u := u) r rs, h, k => by
    refine ⟨v, vs, rfl, ?_⟩
    have h : Sat Qa E (setAll is _ 0 (τ.set i (some u.rd)) >>= f) b := h
    exact names_ok (vw_set vw (u := u.rd) r) rs h fun σ' τ' vw' hw hs => k σ' τ' vw' (fun own ho => by
      rw [hw own fun j hj => ho j (List.mem_cons_of_mem _ hj), wipe_set (ho i List.mem_cons_self)]) hs
theorem tg_ok {α : Type} {Qa : α → Nat → Prop} {E : Nat → T → Nat → Prop} {f : TM.Env → R α} {R : St → Hp → Prop} {K : PySem.W.Frag} {g : Tg} {v : V} {t : T} (vw : Vw G F H σ τ) (r : Rep G F H v t) (h : Sat Qa E (setTg g t.rd τ >>= f) b)
    (k : ∀ σ' τ', Vw G F H σ' τ' → (∀ own : List Nat, (∀ i ∈ g.slots, i ∈ own) → wipe σ' own = wipe σ own) → Sat Qa E (f τ') b → R σ' H) : gTg K g v σ H R := by
  cases g with
  | nm i => exact k _ _ (vw_set vw (u := t.rd) r) (fun own ho => wipe_set (ho i (by simp [Tg.slots]))) h
  | tp is =>
    cases r with
    | @tup a vs us e q =>
      have h : Sat Qa E (setAll is us (if (T.tup us).rd.lv = 2 then 2 else 0) τ >>= f) b := h
      have hl : is.length = us.length := by
        have : ∀ (is : List Nat) (us : List T) (l : Nat) (τ : TM.Env), Sat Qa E (setAll is us l τ >>= f) b → is.length = us.length := by
          intro is
          induction is with
          | nil => intro us l τ h; cases us with | nil => rfl | cons _ _ => exact h.elim
          | cons i is ih => intro us l τ h; cases us with | nil => exact h.elim | cons u us => exact congrArg (· + 1) (ih us l _ h)
        exact this _ _ _ _ h
      refine ⟨a, vs, rfl, SqT.of e, by rw [q.length, hl], ?_⟩
      have e2 : ∀ (is : List Nat) (us : List T) (l : Nat) (τ : TM.Env), (l = 2 → nomuts us = true) → setAll is us (if l = 2 then 2 else 0) τ = setAll is us 0 τ := by
        intro is
        induction is with
        | nil => intro us l τ _; cases us <;> rfl
        | cons i is ih =>
          intro us l τ hn
          cases us with
          | nil => rfl
          | cons u us =>
            have hu : (if u.nomut = true then 2 else if l = 2 then 2 else 0) = (if u.nomut = true then 2 else 0) := by
              by_cases h2 : l = 2
              · have hn2 : (u.nomut && nomuts us) = true := hn h2
                rw [Bool.and_eq_true] at hn2
                rw [hn2.1]; rfl
              · simp [h2]
            show setAll is us _ (τ.set i (some ⟨u, if u.nomut then 2 else if l = 2 then 2 else 0⟩)) = setAll is us 0 (τ.set i (some ⟨u, if u.nomut then 2 else 0⟩))
            rw [hu]
            exact ih us l _ fun h2 => by
              have hn2 : (u.nomut && nomuts us) = true := hn h2
              rw [Bool.and_eq_true] at hn2
              exact hn2.2
      rw [e2 is us _ τ (fun h2 => by
        unfold T.rd at h2
        by_cases hn : (T.tup us).nomut = true
        · exact hn
        · rw [if_neg hn] at h2; cases h2)] at h
      exact names_ok vw q h k
    | _ => exact h.elim

/-! ### comprehensions -/
def stepLc (rp : T → Str) (call : Nat → List T → R Val) (elt : E) (tg : Tg) (cs : Es) (own : List Nat) (τ : TM.Env) (x : T) : R (Option Val) := do
  let τ' ← setTg tg x.rd (wipes own τ)
  let r ← evCs rp call cs τ'
  match r with
  | true => do let v ← evE rp call elt τ'; R.ok (some v)
  | false => R.ok none
/-- tests of a comprehension -/
def tCs (rp : T → Str) (call : Nat → List T → R Val) (W : XW) (As : Es) : TT := fun σ H Q => ∃ G F τ b, Pre G F H σ τ b ∧ Sat (fun r b' => ∀ H' F', Stp G F H F' H' b' → Q r H') (ES G F H W) (evCs rp call As τ) b
theorem PTs.imp {t t' : TT} (h : PTs X es t) (i : ∀ σ H Q, t' σ H Q → t σ H Q) : PTs X es t' := ⟨fun pins s σ H Q I q => h.run pins s σ H Q I (i σ H Q q)⟩
abbrev SCs (X : Cx) (rp : T → Str) (call : Nat → List T → R Val) (W : XW) (es : List Expr) (As : Es) : Prop := PTs X es (tCs rp call W As)
theorem scs_nil : SCs X rp call W [] .nil := PTs.imp pts_nil fun σ H Q ⟨G, F, τ, b, pre, h⟩ => h H F (Stp.refl pre.ok pre.inv)
theorem scs_one (ha : SC X rp call W e A) : SCs X rp call W [e] (.cons A .nil) := PTs.imp (pts_one ha) fun σ H Q ⟨G, F, τ, b, pre, h⟩ => by
  have e : evCs rp call (.cons A .nil) τ = (do let v ← evE rp call A τ; truthy v.t) := by
    show (evE rp call A τ >>= fun v => truthy v.t >>= fun b => match b with | true => R.ok true | false => R.ok false) = _
    congr 1; funext v
    cases v.t <;> first | rfl | skip
    · rename_i b; cases b <;> rfl
    · rename_i i
      show (match (i != 0) with | true => R.ok true | false => R.ok false) = R.ok (i != 0)
      cases (i != 0) <;> rfl
    · rename_i xs
      show (match (!xs.isEmpty) with | true => R.ok true | false => R.ok false) = R.ok (!xs.isEmpty)
      cases (!xs.isEmpty) <;> rfl
    · rename_i xs
      show (match (!xs.isEmpty) with | true => R.ok true | false => R.ok false) = R.ok (!xs.isEmpty)
      cases (!xs.isEmpty) <;> rfl
  rw [e] at h
  exact ⟨G, F, τ, b, pre, h⟩
end
end TM

set_option Elab.async false
set_option linter.all false
set_option maxRecDepth 100000
set_option maxHeartbeats 4000000
namespace TM
open PySem PySem.Spec L2
section
variable {X : Cx} {rp : T → Str} {call : Nat → List T → R Val} {W : XW} {G : Gb} {F F1 F' : Fz} {H H1 H' : Hp} {b b1 b' : Nat} {σ : St} {τ : TM.Env} {Q : VK} {pos p p2 apos tpos : Pos} {e ea eb ec tg iter elt : Expr} {es elts ifs : List Expr} {A B C : E} {As Bs : Es} {I : It} {kk : Nat} {scope : Scope} {D : Addr}

/-- what is new and owned by the one who runs may change -/
theorem stp_upd (s : SInv G b H) {o : HO} (st : Stp G F H F1 H1 b1) (h0 : H D = none) (nf : ¬ F1 D) (h1 : ∃ u, H1 D = some u) : Stp G F H F1 (upd H1 D o) b1 := by
  have nv : ¬ vol G D := not_vol_of_none s h0
  refine ⟨fun a u e hv => by rw [upd_ne (ne_of_none e h0)]; exact st.ext a u e hv, st.mono, st.new, fun a f => ⟨(st.ok a f).1, ?_⟩, ?_⟩
  · obtain ⟨u, e⟩ := (st.ok a f).2
    exact ⟨u, by rw [upd_ne (fun z : a = D => nf (by rw [← z]; exact f))]; exact e⟩
  · have si := st.inv
    cases G with
    | none => trivial
    | some q =>
      obtain ⟨x, l⟩ := q
      obtain ⟨hne, ns, i, j, k, g1, g2, g3⟩ := si
      exact ⟨hne, ns, i, j, k, by rw [upd_ne (fun z => nv (.inl z.symm))]; exact g1, by rw [upd_ne (fun z => nv (.inr z.symm))]; exact g2, g3⟩
theorem RepVs.snoc {v : V} {u : Val} {fp' : List Addr} (r : RepV G F H v u fp') : ∀ {vs : List V} {us : List Val} {fp : List Addr}, RepVs G F H vs us fp → RepVs G F H (vs ++ [v]) (us ++ [u]) (fp ++ fp')
  | _, _, _, .nil => by
    have := RepVs.cons r .nil
    simpa using this
  | _, _, _, .cons (fp := f1) (fp' := f2) q qs => by
    have := RepVs.cons q (RepVs.snoc r qs)
    rw [List.append_assoc]
    exact this
/-- the list at D was made while this ran -/
theorem fin_mkL2 {us : List Val} {vs : List V} {fp : List Addr} (s : SInv G b H) (h : Sat (EQ G F H Q) (ES G F H W) (mkList us) b1) (st : Stp G F H F1 H1 b1) (hD : H1 D = some (.lst vs)) (h0 : H D = none) (nf : ¬ F1 D) (r : RepVs G F1 H1 vs us fp) (o : Own F1 H fp) (nd : D ∉ fp) : Q (.ref D) H1 := by
  unfold mkList at h
  obtain ⟨hl, h⟩ := sat_iteB h
  cases h2 : all2 us with
  | true =>
    have h : EQ G F H Q ⟨.lst (ts us), if all2 us then 2 else if all3 us then 3 else 1⟩ b1 := h
    rw [h2, if_pos rfl] at h
    exact h (.ref D) _ F1 (D :: fp) st (RepD.lst hD (RepVs.deep h2 r)) ⟨List.nodup_cons.mpr ⟨nd, o.1⟩, fun a ha => by
      rcases List.mem_cons.mp ha with rfl | ha
      · exact ⟨h0, nf⟩
      · exact o.2 a ha⟩
  | false =>
    have h : EQ G F H Q ⟨.lst (ts us), if all2 us then 2 else if all3 us then 3 else 1⟩ b1 := h
    rw [h2, if_neg (by decide)] at h
    cases h3 : all3 us with
    | true =>
      rw [h3, if_pos rfl] at h
      have rr := r.reg h3
      refine h (.ref D) _ F1 (D :: fp) st ⟨rfl, .lst List.mem_cons_self hD (rr.1.lift ⟨fun _ k => List.mem_cons_of_mem _ k, fun _ _ e _ => e⟩), fun a ha => ?_⟩ ⟨List.nodup_cons.mpr ⟨nd, o.1⟩, fun a ha => ?_⟩
      · rcases List.mem_cons.mp ha with rfl | ha
        · exact .inl ⟨_, hD⟩
        · exact rr.2 a ha
      · rcases List.mem_cons.mp ha with rfl | ha
        · exact ⟨h0, nf⟩
        · exact o.2 a ha
    | false =>
    rw [h3, if_neg (by decide)] at h
    refine h (.ref D) _ (por F1 fp) [D] (st.freeze s (fun a ha => (o.2 a ha).1) r.there) ⟨D, rfl, rfl, .inl ⟨vs, ts us, rfl, hD, r.share⟩⟩ ⟨by simp, fun a ha => ?_⟩
    have e : a = D := by simpa using ha
    subst e
    exact ⟨h0, fun f => f.elim nf nd⟩

/-- between two turns: done stands at D, the rest is still to come -/
def InvLc (G : Gb) (F : Fz) (H : Hp) (F1 : Fz) (H1 : Hp) (D : Addr) (Qm : List Val → Nat → Prop) (step : T → R (Option Val)) (xs : List T) (H' : Hp) : Prop :=
  ∃ F' b' done vs fp, Stp G F H F' H' b' ∧ Lift G F1 F' H1 H' ∧ H' D = some (.lst vs) ∧ ¬ F' D ∧ RepVs G F' H' vs done fp ∧ Own F' H fp ∧ D ∉ fp ∧
    Sat (fun rest b2 => Qm (done ++ rest) b2) (fun _ _ _ => False) (lcT step xs done.length) b'
theorem Lift.trans {F2 : Fz} {H2 : Hp} (a : Lift G F F1 H H1) (b : Lift G F1 F2 H1 H2) : Lift G F F2 H H2 := ⟨fun x f => b.fr x (a.fr x f), fun x o e h => b.ho x o (a.ho x o e h) (h.imp (a.fr x) id)⟩
theorem drop_get {α : Type} {xs : List α} {i : Nat} {x : α} (h : xs[i]? = some x) : xs.drop i = x :: xs.drop (i + 1) := by
  obtain ⟨hi, rfl⟩ := List.getElem?_eq_some_iff.mp h
  exact List.drop_eq_getElem_cons hi
theorem lift_upd {o : HO} (nf : ¬ F1 D) (nt : ∀ xs, H1 D ≠ some (.tup xs)) : Lift G F1 F1 H1 (upd H1 D o) := ⟨fun _ f => f, fun a u e h => by
  rw [upd_ne (fun z => by
    subst z
    rcases h with h | ⟨xs, rfl⟩
    · exact nf h
    · exact nt xs e)]
  exact e⟩
theorem own_same {fp : List Addr} {F' : Fz} (st : Stp G F1 H1 F' H' b') (o : Own F1 H fp) (t : ∀ a ∈ fp, ∃ u, H1 a = some u) : Own F' H fp :=
  ⟨o.1, fun a ha => ⟨(o.2 a ha).1, own_out st t (fun a ha => (o.2 a ha).2) a ha⟩⟩

theorem lc_read {tge : Tg} {cs : Es} {own : List Nat} {elt' : E} {K : PySem.W.Frag} (hsl : ∀ i ∈ tge.slots, i ∈ own) {σ : St} {H : Hp} {Q : VK} (h : tE rp call W (.lc elt' tge I cs own) σ H Q) :
    tLc (tI rp call W I) (gTg K tge) (tCs rp call W0 cs) (tE rp call W0 elt') own σ H Q := by
  obtain ⟨G, F, τ, b, pre, h⟩ := h
  have h : Sat (EQ G F H Q) (ES G F H W) (evI rp call I τ >>= fun xs => (lcT (stepLc rp call elt' tge cs own τ) xs 0).noexc >>= mkList) b := h
  refine ⟨G, F, τ, b, pre, ((sat_bind _ _).1 h).imp (fun xs b1 hx J H1 F1 st tw D hD => ?_) fun _ _ _ z => z⟩
  have hx := sat_noexc ((sat_bind _ _).1 hx)
  have h0 : H D = none := none_back pre.inv st.inv st.ext hD
  have nv : ¬ vol G D := not_vol_of_none pre.inv h0
  refine ⟨fun i m H' => m = xs.length - i ∧ i ≤ xs.length ∧ InvLc G F H F1 H1 D (fun vs b2 => Sat (EQ G F H Q) (ES G F H W) (mkList vs) b2) (stepLc rp call elt' tge cs own τ) (xs.drop i) H',
    ⟨xs.length, by simp, Nat.zero_le _, F1, b1, [], [], [], st.trans pre.inv (stp_new st.ok st.inv hD), lift_new hD, upd_same, fok_new st.ok hD, .nil, ⟨List.nodup_nil, fun _ k => nomatch k⟩, (fun k => nomatch k), hx⟩, ?_⟩
  rintro i m H' ⟨rfl, hi', F', b', done, vs, fp, st', L, hDv, nf, r, o, nd, hq⟩
  obtain ⟨tw1, tw2⟩ := tw F' H' b' st'.ok st'.inv L
  by_cases hlt : i < xs.length
  · have hget : xs[i]? = some xs[i] := List.getElem?_eq_getElem hlt
    refine .inr ⟨(tw1 i _ hget).1, fun H2 => InvLc G F H F1 H1 D (fun vs b2 => Sat (EQ G F H Q) (ES G F H W) (mkList vs) b2) (stepLc rp call elt' tge cs own τ) (xs.drop (i + 1)) H2, fun H2 hI => ⟨xs.length - (i + 1), by omega, rfl, hlt, hI⟩, fun x H2 hy => ?_⟩
    obtain ⟨st2, rx⟩ := (tw1 i _ hget).2 x H2 hy
    rw [drop_get hget] at hq
    have st02 := st'.trans pre.inv st2
    have vw : Vw G F' H2 (wipe σ own) (wipes own τ) := vw_lift (vw_wipe pre.vw _) (st02.lift pre.inv pre.ok)
    have hq : Sat (fun rest b2 => Sat (EQ G F H Q) (ES G F H W) (mkList (done ++ rest)) b2) (fun _ _ _ => False) ((setTg tge (xs[i]).rd (wipes own τ) >>= fun τ' => evCs rp call cs τ' >>= fun r => match r with | true => (do let v ← evE rp call elt' τ'; R.ok (some v)) | false => R.ok none) >>= fun
      | some v => if Nat.blt done.length LINE then (do let r ← lcT (stepLc rp call elt' tge cs own τ) (xs.drop (i + 1)) (done.length + 1); R.ok (v :: r)) else .stuck
      | none => lcT (stepLc rp call elt' tge cs own τ) (xs.drop (i + 1)) done.length) b' := hq
    rw [bind_assoc] at hq
    refine tg_ok vw rx hq fun σ2 τ2 vw2 hw hq => ⟨(hw _ hsl).trans (wipe_idem _ _), ?_⟩
    rw [bind_assoc] at hq
    refine ⟨G, F', τ2, b', ⟨st2.ok, st2.inv, vw2⟩, ((sat_bind _ _).1 hq).imp (fun c b3 hc3 H3 F3 st3 => ?_) fun _ _ _ z => z.elim⟩
    have st03 := st02.trans pre.inv st3
    have hvf : ∀ a ∈ fp, ¬ vol G a := fun a ha => not_vol_of_none pre.inv (o.2 a ha).1
    have st23 := st2.trans st'.inv st3
    have r3 : RepVs G F3 H3 vs done fp := r.lift ⟨st23.lift st'.inv st'.ok, fun a u ha e => st23.ext a u e (hvf a ha)⟩
    have hD3 : H3 D = some (.lst vs) := st23.ext D _ hDv nv
    have nf3 : ¬ F3 D := fun f => by
      rcases st23.new D f with f | f
      · exact nf f
      · rw [hDv] at f; cases f
    have o3 : Own F3 H fp := own_same st23 o r.there
    have L3 : Lift G F1 F3 H1 H3 := L.trans (st23.lift st'.inv st'.ok)
    cases c
    · exact ⟨F3, b3, done, vs, fp, st03, L3, hD3, nf3, r3, o3, nd, hc3⟩
    · dsimp only
      rw [if_pos rfl]
      have hc3 : Sat (fun rest b2 => Sat (EQ G F H Q) (ES G F H W) (mkList (done ++ rest)) b2) (fun _ _ _ => False) ((evE rp call elt' τ2 >>= fun v => R.ok (some v)) >>= fun
        | some v => if Nat.blt done.length LINE then (do let r ← lcT (stepLc rp call elt' tge cs own τ) (xs.drop (i + 1)) (done.length + 1); R.ok (v :: r)) else .stuck
        | none => lcT (stepLc rp call elt' tge cs own τ) (xs.drop (i + 1)) done.length) b3 := hc3
      rw [bind_assoc] at hc3
      refine ⟨G, F3, τ2, b3, (Pre.mk st2.ok st2.inv vw2).next st3, ((sat_bind _ _).1 hc3).imp (fun v b4 hv y H4 F4 fpy st4 ry oy => ?_) fun _ _ _ z => z.elim⟩
      have hv : Sat (fun rest b2 => Sat (EQ G F H Q) (ES G F H W) (mkList (done ++ rest)) b2) (fun _ _ _ => False) (if Nat.blt done.length LINE = true then (do let r ← lcT (stepLc rp call elt' tge cs own τ) (xs.drop (i + 1)) (done.length + 1); R.ok (v :: r)) else .stuck) b4 := hv
      obtain ⟨hlen, hv⟩ := sat_iteB hv
      have st04 := st03.trans pre.inv st4
      have hD4 : H4 D = some (.lst vs) := st4.ext D _ hD3 nv
      have nf4 : ¬ F4 D := fun f => by
        rcases st4.new D f with f | f
        · exact nf3 f
        · rw [hD3] at f; cases f
      have ndy : D ∉ fpy := fun k => by
        have := (oy.2 D k).1
        rw [hD3] at this; cases this
      have L4 : Lift G F1 F4 H1 H4 := L3.trans (st4.lift st3.inv st3.ok)
      have Lu : Lift G F4 F4 H4 (upd H4 D (.lst (vs ++ [y]))) := lift_upd nf4 fun xs k => by rw [hD4] at k; cases k
      have r4 : RepVs G F4 H4 vs done fp := r3.lift ⟨st4.lift st3.inv st3.ok, fun a u ha e => st4.ext a u e (hvf a ha)⟩
      refine ⟨vs, hD4, ?_, F4, b4, done ++ [v], vs ++ [y], fp ++ fpy, stp_upd pre.inv st04 h0 nf4 ⟨_, hD4⟩, L4.trans Lu, upd_same, nf4, ?_, own_app pre.inv st03 st4 o3 oy r3.there, ?_, ?_⟩
      · rw [r.length, line_eq]; exact Nat.le_of_ble_eq_true hlen
      · exact RepVs.snoc (ry.lift ⟨Lu, fun a u ha e => by rw [upd_ne (fun z : a = D => ndy (by rw [← z]; exact ha))]; exact e⟩) (r4.lift ⟨Lu, fun a u ha e => by rw [upd_ne (fun z : a = D => nd (by rw [← z]; exact ha))]; exact e⟩)
      · intro k
        rcases List.mem_append.mp k with k | k
        · exact nd k
        · exact ndy k
      · rw [List.length_append]
        refine ((sat_bind _ _).1 hv).imp (fun rest b5 hr => ?_) fun _ _ _ z => z
        have hr : Sat (EQ G F H Q) (ES G F H W) (mkList (done ++ v :: rest)) b5 := hr
        rw [List.append_assoc]
        exact hr
  · have ei : i = xs.length := by omega
    subst ei
    refine .inl ⟨tw2, ?_⟩
    rw [List.drop_length] at hq
    have hq : Sat (EQ G F H Q) (ES G F H W) (mkList (done ++ [])) b' := hq
    rw [List.append_nil] at hq
    exact fin_mkL2 pre.inv hq st' hDv h0 nf r o nd
theorem se_lc {tge : Tg} {cs : Es} {own : List Nat} {ownN : List (Str × Nat)} {elt' : E} (hc : X.calm = true) (hN : X.N.Nodup) (ok : BlkOk X.N X.env.scope scope ownN) (hown : ownN.map (·.2) = own)
    (hi : SI X rp call W tg iter I)
    (hg : ∀ (s : Shared) (H : Hp) (C : Addr) (cl : List (Str × Addr)) (fp : List Addr), PG (X.blk s H scope (compEnvC scope cl C X.env) fp) tg (gTg X.K tge)) (hsl : ∀ i ∈ tge.slots, i ∈ own)
    (ht : ∀ (s : Shared) (H : Hp) (C : Addr) (cl : List (Str × Addr)) (fp : List Addr), SCs (X.blk s H scope (compEnvC scope cl C X.env) fp) rp call W0 ifs cs)
    (he : ∀ (s : Shared) (H : Hp) (C : Addr) (cl : List (Str × Addr)) (fp : List Addr), SE (X.blk s H scope (compEnvC scope cl C X.env) fp) rp call W0 elt elt') (hs : ∀ x, foldedSetIterable iter X.env x = pure x) :
    SE X rp call W (.ListComp elt [⟨tg, iter, ifs, 0⟩] scope pos) (.lc elt' tge I cs own) := by
  subst hown
  exact PE.imp (pe_lc hc hN hi ok hg ht he hs) fun σ H Q h => lc_read hsl h
end
end TM

set_option Elab.async false
set_option linter.all false
set_option maxRecDepth 100000
set_option maxHeartbeats 4000000
namespace TM
open PySem PySem.Spec L2

abbrev Fps := Nat → List Addr
/-- the slots of a def that runs, since its entry (F0, H0) -/
structure SR (G : Gb) (F0 : Fz) (H0 : Hp) (F : Fz) (H : Hp) (σ : St) (τ : TM.Env) (b : Nat) (fps : Fps) : Prop where
  stp : Stp G F0 H0 F H b
  len : τ.length = σ.length
  vw : ∀ (i : Nat) (u : Val), τ[i]? = some (some u) → ∃ v, σ[i]? = some (some v) ∧ RepV G F H v u (fps i)
  emp : ∀ i, (∀ u, τ[i]? ≠ some (some u)) → fps i = []
  own : ∀ i, (fps i).Nodup ∧ ∀ a ∈ fps i, H0 a = none ∧ ¬ F a
  dis : ∀ i j a, a ∈ fps i → a ∈ fps j → i = j

section
variable {G : Gb} {F0 F F1 F' : Fz} {H0 H H1 H' : Hp} {b0 b b1 b' : Nat} {σ : St} {τ : TM.Env} {fps : Fps}

theorem SR.there (S : SR G F0 H0 F H σ τ b fps) {i : Nat} {a : Addr} (h : a ∈ fps i) : ∃ o, H a = some o := by
  cases e : τ[i]? with
  | none => rw [S.emp i (fun u q => by rw [e] at q; cases q)] at h; cases h
  | some w =>
    cases w with
    | none => rw [S.emp i (fun u q => by rw [e] at q; cases q)] at h; cases h
    | some u =>
      obtain ⟨v, _, r⟩ := S.vw i u e
      exact r.there a h
theorem SR.novol (s0 : SInv G b0 H0) (S : SR G F0 H0 F H σ τ b fps) {i : Nat} {a : Addr} (h : a ∈ fps i) : ¬ vol G a := not_vol_of_none s0 ((S.own i).2 a h).1

/-! nothing in it can change: no F is leant on -/
mutual
theorem Rep.any : ∀ {v : V} {t : T}, t.nomut = true → Rep G F H v t → Rep G F' H v t
  | _, _, _, .non => .non
  | _, _, _, .bl b => .bl b
  | _, _, _, .int i => .int i
  | _, _, _, .str x => .str x
  | _, _, _, .tok e => .tok e
  | _, _, _, .adr => .adr
  | _, _, h, .lst f e r => nomatch h
  | _, _, h, .tup e r => .tup e (Reps.any h r)
  | _, _, h, .dct f e r => nomatch h
theorem Reps.any : ∀ {vs : List V} {us : List T}, nomuts us = true → Reps G F H vs us → Reps G F' H vs us
  | _, _, _, .nil => .nil
  | _ :: _, u :: us, h, .cons r rs => by
    have h : (u.nomut && nomuts us) = true := h
    rw [Bool.and_eq_true] at h
    exact .cons (Rep.any h.1 r) (Reps.any h.2 rs)
end
mutual
theorem RepD.any : ∀ {v : V} {t : T} {fp : List Addr}, RepD G F H v t fp → RepD G F' H v t fp
  | _, _, _, .sh n r => .sh n (r.any n)
  | _, _, _, .lst e r => .lst e (RepDs.any r)
  | _, _, _, .tup e r => .tup e (RepDs.any r)
  | _, _, _, .dct e r => .dct e (RepDs.any r)
theorem RepDs.any : ∀ {vs : List V} {us : List T} {fp : List Addr}, RepDs G F H vs us fp → RepDs G F' H vs us fp
  | _, _, _, .nil => .nil
  | _, _, _, .cons r rs => .cons (RepD.any r) (RepDs.any rs)
end
mutual
theorem RepD.plain : ∀ {v : V} {t : T} {fp : List Addr}, t.nomut = true → RepD G F H v t fp → Rep G F' H v t ∧ fp = []
  | _, _, _, _, .sh n r => ⟨r.any n, rfl⟩
  | _, _, _, h, .lst e r => nomatch h
  | _, _, _, h, .tup e r => by
    obtain ⟨h1, h2⟩ := RepDs.plain h r
    exact ⟨.tup e h1, h2⟩
  | _, _, _, h, .dct e r => nomatch h
theorem RepDs.plain : ∀ {vs : List V} {us : List T} {fp : List Addr}, nomuts us = true → RepDs G F H vs us fp → Reps G F' H vs us ∧ fp = []
  | _, _, _, _, .nil => ⟨.nil, rfl⟩
  | _ :: _, u :: us, _, h, .cons r rs => by
    have h : (u.nomut && nomuts us) = true := h
    rw [Bool.and_eq_true] at h
    obtain ⟨h1, h2⟩ := RepD.plain h.1 r
    obtain ⟨h3, h4⟩ := RepDs.plain h.2 rs
    exact ⟨.cons h1 h3, by rw [h2, h4]; rfl⟩
end
theorem RepV.plain {v : V} {u : Val} {fp : List Addr} (h : u.t.nomut = true) (r : RepV G F H v u fp) : Rep G F' H v u.t ∧ fp = [] := by
  obtain ⟨t, lv⟩ := u
  match lv, r with
  | 0, r => exact ⟨r.1.any h, r.2⟩
  | 1, r =>
    obtain ⟨a, rfl, rfl, q⟩ := r
    rcases q with ⟨vs, us, e, _⟩ | ⟨kvs, us, e, _⟩
    · dsimp only at e h; subst e; cases h
    · dsimp only at e h; subst e; cases h
  | 2, r => exact RepD.plain h r
  | 3, r =>
    have := r.1
    dsimp only at this h
    rw [h] at this; cases this
  | n + 4, r => exact r.elim

/-! ### sight -/
theorem hideFrom_get (fz : List Nat) : ∀ (n : Nat) (τ : TM.Env) (i : Nat), (hideFrom fz n τ)[i]? = (τ[i]?).map fun o => match o with
    | some v => if Nat.beq v.lv 0 || (v.t.nomut || fz.elem (n + i)) then some v else none
    | none => none
  | _, [], i => by simp [hideFrom]
  | n, o :: τ, 0 => rfl
  | n, o :: τ, i + 1 => by
    show (hideFrom fz (n + 1) τ)[i]? = _
    rw [hideFrom_get fz (n + 1) τ i]
    have : n + 1 + i = n + (i + 1) := by omega
    rw [this]; rfl
theorem hideFrom_length (fz : List Nat) : ∀ (n : Nat) (τ : TM.Env), (hideFrom fz n τ).length = τ.length
  | _, [] => rfl
  | n, o :: τ => congrArg (· + 1) (hideFrom_length fz (n + 1) τ)
theorem hide_get {fz : List Nat} {i : Nat} {u : Val} (h : (hide fz τ)[i]? = some (some u)) : τ[i]? = some (some u) ∧ (u.lv = 0 ∨ u.t.nomut = true ∨ i ∈ fz) := by
  unfold hide at h
  rw [hideFrom_get] at h
  cases e : τ[i]? with
  | none => rw [e] at h; cases h
  | some o =>
    rw [e] at h
    cases o with
    | none => cases h
    | some v =>
      simp only [Option.map_some, Option.some.injEq, Nat.zero_add] at h
      split at h
      · rename_i hc
        cases h
        refine ⟨rfl, ?_⟩
        rw [Bool.or_eq_true, Bool.or_eq_true] at hc
        rcases hc with hc | hc | hc
        · exact .inl (Nat.eq_of_beq_eq_true hc)
        · exact .inr (.inl hc)
        · exact .inr (.inr (by simpa using hc))
      · cases h
/-- F, and what is owned by the names fz -/
def Fsee (F : Fz) (fps : Fps) (P : Nat → Prop) : Fz := fun a => F a ∨ ∃ i, P i ∧ a ∈ fps i
theorem SR.fok (s0 : SInv G b0 H0) (S : SR G F0 H0 F H σ τ b fps) (P : Nat → Prop) : FOk G (Fsee F fps P) H := fun a f => by
  rcases f with f | ⟨i, _, f⟩
  · exact S.stp.ok a f
  · exact ⟨S.novol s0 f, S.there f⟩
theorem RepV.see {v : V} {u : Val} {P : Nat → Prop} {i : Nat} (hi : P i) (r : RepV G F H v u (fps i)) : Rep G (Fsee F fps P) H v u.t :=
  r.share.lift ⟨fun a f => by
    rcases f with f | f
    · exact .inl f
    · exact .inr ⟨i, hi, f⟩, fun _ _ e _ => e⟩
/-- all names are seen -/
theorem SR.pre (s0 : SInv G b0 H0) (S : SR G F0 H0 F H σ τ b fps) : Pre G (Fsee F fps fun _ => True) H σ τ b :=
  ⟨S.fok s0 _, S.stp.inv, S.len, fun i u e => by
    obtain ⟨v, h1, h2⟩ := S.vw i u e
    exact ⟨v, h1, h2.see trivial⟩⟩
theorem SR.preH (s0 : SInv G b0 H0) (S : SR G F0 H0 F H σ τ b fps) (fz : List Nat) : Pre G (Fsee F fps fun i => i ∈ fz) H σ (hide fz τ) b :=
  ⟨S.fok s0 _, S.stp.inv, by rw [hide, hideFrom_length]; exact S.len, fun i u e => by
    obtain ⟨e, hc⟩ := hide_get e
    obtain ⟨v, h1, h2⟩ := S.vw i u e
    refine ⟨v, h1, ?_⟩
    rcases hc with hc | hc | hc
    · obtain ⟨t, lv⟩ := u
      dsimp only at hc
      subst hc
      exact h2.1.lift ⟨fun a f => .inl f, fun _ _ e _ => e⟩
    · exact (h2.plain hc).1
    · exact h2.see (P := fun i => i ∈ fz) hc⟩
/-- what is frozen behind an expression, the names' own things left out -/
def Fkeep (F' : Fz) (fps : Fps) (P : Nat → Prop) : Fz := fun a => F' a ∧ ¬ ∃ i, P i ∧ a ∈ fps i
theorem keep_sub (S : SR G F0 H0 F H σ τ b fps) {P : Nat → Prop} (st : Stp G (Fsee F fps P) H F' H' b') : ∀ a, F a → Fkeep F' fps P a := fun a f => ⟨st.mono a (.inl f), fun ⟨i, _, k⟩ => ((S.own i).2 a k).2 f⟩
theorem Fkeep.new (S : SR G F0 H0 F H σ τ b fps) {P : Nat → Prop} (st : Stp G (Fsee F fps P) H F' H' b') {a : Addr} (h : Fkeep F' fps P a) : F a ∨ H a = none := by
  rcases st.new a h.1 with (f | f) | f
  · exact .inl f
  · exact absurd f h.2
  · exact .inr f
/-- behind an expression, all names as they were -/
theorem SR.behind (s0 : SInv G b0 H0) (S : SR G F0 H0 F H σ τ b fps) {P : Nat → Prop} (st : Stp G (Fsee F fps P) H F' H' b') : SR G F0 H0 (Fkeep F' fps P) H' σ τ b' fps where
  stp := ⟨S.stp.ext.trans st.ext, fun a f => keep_sub S st a (S.stp.mono a f), fun a f => by
    rcases f.new S st with f | f
    · exact S.stp.new a f
    · exact .inr (none_back s0 S.stp.inv S.stp.ext f), fun a f => st.ok a f.1, st.inv⟩
  len := S.len
  vw := fun i u e => by
    obtain ⟨v, h1, h2⟩ := S.vw i u e
    exact ⟨v, h1, h2.lift ⟨lift_of S.stp.inv st.ext (keep_sub S st) S.stp.ok.off, fun a o ha e => st.ext a o e (S.novol s0 ha)⟩⟩
  emp := S.emp
  own := fun i => ⟨(S.own i).1, fun a ha => ⟨((S.own i).2 a ha).1, fun f => by
    rcases f.new S st with f | f
    · exact ((S.own i).2 a ha).2 f
    · obtain ⟨o, e⟩ := S.there ha
      rw [f] at e; cases e⟩⟩
  dis := S.dis
theorem SR.behindLift (s0 : SInv G b0 H0) (S : SR G F0 H0 F H σ τ b fps) {P : Nat → Prop} (st : Stp G (Fsee F fps P) H F' H' b') : Lift G F (Fkeep F' fps P) H H' := lift_of S.stp.inv st.ext (keep_sub S st) S.stp.ok.off

/-- the names fz shared from now on -/
def Ffrz (F : Fz) (fps : Fps) (P : Nat → Prop) : Fz := Fsee F fps P
open Classical in
noncomputable def fpsOut (fps : Fps) (P : Nat → Prop) : Fps := fun i => if P i then [] else fps i
theorem frz_get : ∀ (fz : List Nat) (τ : TM.Env) (i : Nat), (frz fz τ)[i]? = if i ∈ fz then (τ[i]?).map (Option.map fun v => v.t.rd) else τ[i]?
  | [], τ, i => by simp [frz]
  | j :: fz, τ, i => by
    have rdrd : ∀ t : T, t.rd.t.rd = t.rd := fun _ => rfl
    have ih := frz_get fz τ
    show (frz1 j (frz fz τ))[i]? = _
    unfold frz1
    split
    · rename_i v hv
      by_cases hij : j = i
      · subst hij
        have hl : j < (frz fz τ).length := (List.getElem?_eq_some_iff.mp hv).1
        rw [List.getElem?_set_self hl, if_pos List.mem_cons_self]
        rw [ih] at hv
        by_cases hm : j ∈ fz
        · rw [if_pos hm] at hv
          cases e : τ[j]? with
          | none => rw [e] at hv; cases hv
          | some o =>
            rw [e] at hv
            cases o with
            | none => cases hv
            | some w => cases hv; rfl
        · rw [if_neg hm] at hv
          rw [hv]; rfl
      · rw [List.getElem?_set_ne hij, ih]
        by_cases hm : i ∈ fz
        · rw [if_pos hm, if_pos (List.mem_cons_of_mem _ hm)]
        · rw [if_neg hm, if_neg (fun z => by
            rcases List.mem_cons.mp z with z | z
            · exact hij z.symm
            · exact hm z)]
    · rename_i hv
      rw [ih]
      by_cases hij : j = i
      · subst hij
        rw [if_pos List.mem_cons_self]
        by_cases hm : j ∈ fz
        · rw [if_pos hm]
        · rw [if_neg hm]
          cases e : τ[j]? with
          | none => rfl
          | some o =>
            cases o with
            | none => rfl
            | some w => exact absurd (by rw [ih, if_neg hm]; exact e) (hv w)
      · by_cases hm : i ∈ fz
        · rw [if_pos hm, if_pos (List.mem_cons_of_mem _ hm)]
        · rw [if_neg hm, if_neg (fun z => by
            rcases List.mem_cons.mp z with z | z
            · exact hij z.symm
            · exact hm z)]
theorem frz1_length (j : Nat) (τ : TM.Env) : (frz1 j τ).length = τ.length := by
  unfold frz1
  split
  · rw [List.length_set]
  · rfl
theorem frz_length : ∀ (fz : List Nat) (τ : TM.Env), (frz fz τ).length = τ.length
  | [], _ => rfl
  | j :: fz, τ => (frz1_length j _).trans (frz_length fz τ)
/-- behind an expression, the names fz shared -/
theorem SR.frozen (s0 : SInv G b0 H0) (S : SR G F0 H0 F H σ τ b fps) {fz : List Nat} (st : Stp G (Fsee F fps fun i => i ∈ fz) H F' H' b') : SR G F0 H0 F' H' σ (frz fz τ) b' (fpsOut fps fun i => i ∈ fz) where
  stp := ⟨S.stp.ext.trans st.ext, fun a f => st.mono a (.inl (S.stp.mono a f)), fun a f => by
    rcases st.new a f with (f | ⟨i, _, f⟩) | f
    · exact S.stp.new a f
    · exact .inr ((S.own i).2 a f).1
    · exact .inr (none_back s0 S.stp.inv S.stp.ext f), st.ok, st.inv⟩
  len := by rw [frz_length]; exact S.len
  vw := fun i u e => by
    rw [frz_get] at e
    unfold fpsOut
    by_cases hm : i ∈ fz
    · rw [if_pos hm] at e
      rw [if_pos hm]
      cases e2 : τ[i]? with
      | none => rw [e2] at e; cases e
      | some o =>
        rw [e2] at e
        cases o with
        | none => cases e
        | some w =>
          cases e
          obtain ⟨v, h1, h2⟩ := S.vw i w e2
          exact ⟨v, h1, repV_rd ((h2.see (P := fun i => i ∈ fz) hm).lift (lift_of S.stp.inv st.ext st.mono (S.fok s0 _).off))⟩
    · rw [if_neg hm] at e
      rw [if_neg hm]
      obtain ⟨v, h1, h2⟩ := S.vw i u e
      exact ⟨v, h1, h2.lift ⟨lift_of S.stp.inv st.ext (fun a f => st.mono a (.inl f)) S.stp.ok.off, fun a o ha e => st.ext a o e (S.novol s0 ha)⟩⟩
  emp := fun i h => by
    unfold fpsOut
    by_cases hm : i ∈ fz
    · rw [if_pos hm]
    · rw [if_neg hm]
      refine S.emp i fun u e => h u ?_
      rw [frz_get, if_neg hm]; exact e
  own := fun i => by
    unfold fpsOut
    by_cases hm : i ∈ fz
    · rw [if_pos hm]; exact ⟨List.nodup_nil, fun _ k => nomatch k⟩
    · rw [if_neg hm]
      refine ⟨(S.own i).1, fun a ha => ⟨((S.own i).2 a ha).1, fun f => ?_⟩⟩
      rcases st.new a f with (f | ⟨j, hj, f⟩) | f
      · exact ((S.own i).2 a ha).2 f
      · exact hm (by rw [S.dis i j a ha f]; exact hj)
      · obtain ⟨o, e⟩ := S.there ha
        rw [f] at e; cases e
  dis := fun i j a hi hj => by
    unfold fpsOut at hi hj
    split at hi
    · cases hi
    · split at hj
      · cases hj
      · exact S.dis i j a hi hj
theorem SR.frozenLift (s0 : SInv G b0 H0) (S : SR G F0 H0 F H σ τ b fps) {P : Nat → Prop} (st : Stp G (Fsee F fps P) H F' H' b') : Lift G F F' H H' := lift_of S.stp.inv st.ext (fun a f => st.mono a (.inl f)) S.stp.ok.off
end
end TM

set_option Elab.async false
set_option linter.all false
set_option maxRecDepth 100000
set_option maxHeartbeats 4000000
namespace TM
open PySem PySem.Spec L2

section
variable {G : Gb} {F0 F F1 F' : Fz} {H0 H H1 H' : Hp} {b0 b b1 b' : Nat} {σ : St} {τ : TM.Env} {fps : Fps} {W : XW}
theorem SR.stpSee (s0 : SInv G b0 H0) (S : SR G F0 H0 F H σ τ b fps) {P : Nat → Prop} (st : Stp G (Fsee F fps P) H F' H' b') : Stp G F0 H0 F' H' b' :=
  ⟨S.stp.ext.trans st.ext, fun a f => st.mono a (.inl (S.stp.mono a f)), fun a f => by
    rcases st.new a f with (f | ⟨i, _, f⟩) | f
    · exact S.stp.new a f
    · exact .inr ((S.own i).2 a f).1
    · exact .inr (none_back s0 S.stp.inv S.stp.ext f), st.ok, st.inv⟩
theorem ES.see (s0 : SInv G b0 H0) (S : SR G F0 H0 F H σ τ b fps) {P : Nat → Prop} {c : Nat} {t : T} {b2 : Nat} (h : ES G F0 H0 W c t b2) : ES G (Fsee F fps P) H W c t b2 := fun v H' F' st r => h v H' F' (S.stpSee s0 st) r
def setS : List Nat → List V → St → St
  | i :: is, v :: vs, σ => setS is vs (σ.set i (some v))
  | _, _, σ => σ
theorem gNames_iff {R : St → Hp → Prop} : ∀ {is : List Nat} {vs : List V} {σ : St} {H : Hp}, is.length = vs.length → R (setS is vs σ) H → gNames is vs σ H R
  | [], [], _, _, _, h => ⟨rfl, h⟩
  | i :: is, v :: vs, σ, H, hl, h => ⟨v, vs, rfl, gNames_iff (Nat.succ.inj hl) h⟩
  | [], _ :: _, _, _, hl, _ => nomatch hl
  | _ :: _, [], _, _, hl, _ => nomatch hl
/-- what a new value's own things may be -/
structure Fit (H0 : Hp) (F : Fz) (fps : Fps) (fp : List Addr) : Prop where
  nd : fp.Nodup
  own : ∀ a ∈ fp, H0 a = none ∧ ¬ F a
  dis : ∀ a ∈ fp, ∀ j, a ∉ fps j
/-- a value is stored -/
theorem SR.store (S : SR G F0 H0 F H σ τ b fps) {i : Nat} {v : V} {u : Val} {fp : List Addr} (r : RepV G F H v u fp) (o : Fit H0 F fps fp) :
    ∃ fps', SR G F0 H0 F H (σ.set i (some v)) (τ.set i (some u)) b fps' ∧ ∀ j a, a ∈ fps' j → a ∈ fp ∨ a ∈ fps j := by
  refine ⟨fun j => if j = i ∧ i < τ.length then fp else fps j, ⟨S.stp, by rw [List.length_set, List.length_set]; exact S.len, fun j w e => ?_, fun j h => ?_, fun j => ?_, fun j k a hj hk => ?_⟩, fun j a h => ?_⟩
  · by_cases hj : i = j
    · subst hj
      by_cases hi : i < τ.length
      · rw [List.getElem?_set_self hi] at e
        cases e
        refine ⟨v, by rw [List.getElem?_set_self (by rw [← S.len]; exact hi)], ?_⟩
        rw [if_pos ⟨rfl, hi⟩]; exact r
      · rw [List.getElem?_eq_none (by simpa using hi)] at e; cases e
    · rw [List.getElem?_set_ne hj] at e
      obtain ⟨z, h1, h2⟩ := S.vw j w e
      refine ⟨z, by rw [List.getElem?_set_ne hj]; exact h1, ?_⟩
      rw [if_neg (fun q => hj q.1.symm)]; exact h2
  · by_cases hj : i = j
    · subst hj
      by_cases hi : i < τ.length
      · exact absurd (List.getElem?_set_self hi) (h u)
      · rw [if_neg (fun q => hi q.2)]
        exact S.emp i fun w e => by rw [List.getElem?_eq_none (by omega)] at e; cases e
    · rw [if_neg (fun q => hj q.1.symm)]
      exact S.emp j fun w e => h w (by rw [List.getElem?_set_ne hj]; exact e)
  · split
    · exact ⟨o.nd, o.own⟩
    · exact S.own j
  · split at hj
    · rename_i q1
      split at hk
      · rename_i q2; rw [q1.1, q2.1]
      · exact absurd hk (o.dis a hj k)
    · split at hk
      · exact absurd hj (o.dis a hk j)
      · exact S.dis j k a hj hk
  · dsimp only at h
    split at h
    · exact .inl h
    · exact .inr h
theorem SR.storeAll : ∀ {is : List Nat} {vs : List V} {us : List Val} {fp : List Addr} {σ : St} {τ τ' : TM.Env} {fps : Fps}, SR G F0 H0 F H σ τ b fps → RepVs G F H vs us fp → Fit H0 F fps fp → setVals is us τ = .ok τ' →
    ∃ fps', SR G F0 H0 F H (setS is vs σ) τ' b fps' ∧ is.length = vs.length
  | [], _, _, _, _, _, _, fps, S, .nil, _, e => by cases e; exact ⟨fps, S, rfl⟩
  | [], _, _, _, _, _, _, _, S, .cons _ _, _, e => nomatch e
  | _ :: _, _, _, _, _, _, _, _, S, .nil, _, e => nomatch e
  | i :: is, v :: vs, u :: us, _, σ, τ, τ', fps, S, .cons (fp := fp) (fp' := fp') r rs, o, e => by
    obtain ⟨n1, n2, n3⟩ := List.nodup_append.mp o.nd
    obtain ⟨fps', S', sub⟩ := S.store (i := i) r ⟨n1, fun a ha => o.own a (List.mem_append_left _ ha), fun a ha => o.dis a (List.mem_append_left _ ha)⟩
    obtain ⟨fps2, S2, hl⟩ := SR.storeAll (is := is) S' rs ⟨n2, fun a ha => o.own a (List.mem_append_right _ ha), fun a ha j k => by
      rcases sub j a k with k | k
      · exact n3 a k a ha rfl
      · exact o.dis a (List.mem_append_right _ ha) j k⟩ e
    exact ⟨fps2, S2, congrArg (· + 1) hl⟩
theorem SR.drop (S : SR G F0 H0 F H σ τ b fps) (i : Nat) : SR G F0 H0 F H σ (τ.set i none) b (fun j => if j = i then [] else fps j) := by
  refine ⟨S.stp, by rw [List.length_set]; exact S.len, fun j w e => ?_, fun j h => ?_, fun j => ?_, fun j k a hj hk => ?_⟩
  · by_cases hj : i = j
    · subst hj
      by_cases hi : i < τ.length
      · rw [List.getElem?_set_self hi] at e; cases e
      · rw [List.getElem?_eq_none (by simpa using hi)] at e; cases e
    · rw [List.getElem?_set_ne hj] at e
      rw [if_neg (fun q => hj q.symm)]
      exact S.vw j w e
  · split
    · rfl
    · rename_i hj
      exact S.emp j fun w e => h w (by rw [List.getElem?_set_ne (fun q => hj q.symm)]; exact e)
  · split
    · exact ⟨List.nodup_nil, fun _ k => nomatch k⟩
    · exact S.own j
  · split at hj
    · cases hj
    · split at hk
      · cases hk
      · exact S.dis j k a hj hk
theorem SR.drops (S : SR G F0 H0 F H σ τ b fps) : ∀ is : List Nat, ∃ fps', SR G F0 H0 F H σ (wipes is τ) b fps'
  | [] => ⟨fps, S⟩
  | i :: is => by
    obtain ⟨fps', S'⟩ := S.drops is
    exact ⟨_, S'.drop i⟩

/-- behind a value: the names as they are then, and the value fits -/
theorem SR.afterV (s0 : SInv G b0 H0) (S : SR G F0 H0 F H σ τ b fps) {fz : List Nat} {v : V} {u : Val} {fp : List Addr} (st : Stp G (Fsee F fps fun i => i ∈ fz) H F' H' b') (r : RepV G F' H' v u fp) (o : Own F' H fp) :
    ∃ F2 fps2, SR G F0 H0 F2 H' σ (after fz u τ) b' fps2 ∧ Lift G F F2 H H' ∧ RepV G F2 H' v u fp ∧ Fit H0 F2 fps2 fp ∧ (∀ j a, a ∈ fps2 j → a ∈ fps j) := by
  have hnew : ∀ a ∈ fp, H0 a = none := fun a ha => none_back s0 S.stp.inv S.stp.ext (o.2 a ha).1
  have hdis : ∀ a ∈ fp, ∀ j, a ∉ fps j := fun a ha j k => by
    obtain ⟨w, e⟩ := S.there k
    rw [(o.2 a ha).1] at e; cases e
  unfold after
  by_cases h2 : u.lv = 2
  · rw [if_pos h2]
    refine ⟨_, fps, S.behind s0 st, S.behindLift s0 st, ?_, ⟨o.1, fun a ha => ⟨hnew a ha, fun f => (o.2 a ha).2 f.1⟩, hdis⟩, fun _ _ h => h⟩
    obtain ⟨t, lv⟩ := u
    dsimp only at h2
    subst h2
    exact RepD.any r
  · rw [if_neg h2]
    by_cases h3 : u.lv = 3
    · rw [if_pos h3]
      refine ⟨_, fps, S.behind s0 st, S.behindLift s0 st, ?_, ⟨o.1, fun a ha => ⟨hnew a ha, fun f => (o.2 a ha).2 f.1⟩, hdis⟩, fun _ _ h => h⟩
      obtain ⟨t, lv⟩ := u
      dsimp only at h3
      subst h3
      exact r
    rw [if_neg h3]
    refine ⟨F', _, S.frozen s0 st, S.frozenLift s0 st, r, ⟨o.1, fun a ha => ⟨hnew a ha, (o.2 a ha).2⟩, fun a ha j k => ?_⟩, fun j a h => ?_⟩
    · unfold fpsOut at k
      split at k
      · cases k
      · exact hdis a ha j k
    · unfold fpsOut at h
      split at h
      · cases h
      · exact h
end

/-! ### statements -/
section
variable (rp : T → Str) (call : Nat → List T → R Val) (W : XW)
def SQ (G : Gb) (F0 : Fz) (H0 : Hp) (F : Fz) (H : Hp) (D : Ends) : Out → Nat → Prop
  | .nx τ', b' => ∀ σ' H' F' fps', SR G F0 H0 F' H' σ' τ' b' fps' → Lift G F F' H H' → D.nx σ' H'
  | .bk τ', b' => ∀ σ' H' F' fps', SR G F0 H0 F' H' σ' τ' b' fps' → Lift G F F' H H' → D.bk σ' H'
  | .rt u, b' => ∀ v H' F' fp, Stp G F0 H0 F' H' b' → RepV G F' H' v u fp → Own F' H0 fp → D.rt v H'
def tS (s : S) : TS := fun D σ H => ∃ G F0 H0 b0 F τ b fps, SInv G b0 H0 ∧ FOk G F0 H0 ∧ SR G F0 H0 F H σ τ b fps ∧ Sat (SQ G F0 H0 F H D) (ES G F0 H0 W) (evS rp call s τ) b
def tSs (s : Ss) : TS := fun D σ H => ∃ G F0 H0 b0 F τ b fps, SInv G b0 H0 ∧ FOk G F0 H0 ∧ SR G F0 H0 F H σ τ b fps ∧ Sat (SQ G F0 H0 F H D) (ES G F0 H0 W) (evSs rp call s τ) b
end
theorem PS.imp {X : Cx} {s : Stmt} {t t' : TS} (h : PS X s t) (i : ∀ D σ H, t' D σ H → t D σ H) : PS X s t' := ⟨fun pins s σ H D I q => h.run pins s σ H D I (i D σ H q)⟩
theorem PSs.imp {X : Cx} {s : List Stmt} {t t' : TS} (h : PSs X s t) (i : ∀ D σ H, t' D σ H → t D σ H) : PSs X s t' := ⟨fun pins s σ H D I q => h.run pins s σ H D I (i D σ H q)⟩

section
variable {X : Cx} {rp : T → Str} {call : Nat → List T → R Val} {W : XW} {G : Gb} {F0 F F1 : Fz} {H0 H H1 : Hp} {b0 b b1 : Nat} {σ : St} {τ : TM.Env} {fps : Fps} {D : Ends} {pos p p2 apos tpos : Pos} {e ea eb ec : Expr} {es elts : List Expr} {A B C : E} {As Bs : Es} {kk : Nat} {st : Stmt} {sts sts2 : List Stmt} {s : S} {ss ss2 : Ss}
abbrev SS (X : Cx) (rp : T → Str) (call : Nat → List T → R Val) (W : XW) (st : Stmt) (s : S) : Prop := PS X st (tS rp call W s)
abbrev SSs (X : Cx) (rp : T → Str) (call : Nat → List T → R Val) (W : XW) (st : List Stmt) (s : Ss) : Prop := PSs X st (tSs rp call W s)

theorem SQ.lift (L : Lift G F F1 H H1) {o : Out} {b : Nat} (h : SQ G F0 H0 F H D o b) : SQ G F0 H0 F1 H1 D o b := by
  cases o with
  | nx τ' => exact fun σ' H' F' fps' S l => h σ' H' F' fps' S (L.trans l)
  | bk τ' => exact fun σ' H' F' fps' S l => h σ' H' F' fps' S (L.trans l)
  | rt u => exact h
theorem ss_nil : SSs X rp call W [] .nil := PSs.imp pss_nil fun D σ H ⟨G, F0, H0, b0, F, τ, b, fps, s0, f0, S, h⟩ => h σ H F fps S (Lift.refl)
theorem ss_cons (h1 : SS X rp call W st s) (h2 : SSs X rp call W sts ss) : SSs X rp call W (st :: sts) (.cons s ss) :=
  PSs.imp (pss_cons h1 h2) fun D σ H ⟨G, F0, H0, b0, F, τ, b, fps, s0, f0, S, h⟩ => by
    have h : Sat (SQ G F0 H0 F H D) (ES G F0 H0 W) (evS rp call s τ >>= fun o => match o with | .nx τ' => evSs rp call ss τ' | o => R.ok o) b := h
    refine ⟨G, F0, H0, b0, F, τ, b, fps, s0, f0, S, ((sat_bind _ _).1 h).imp (fun o b' ho => ?_) fun _ _ _ z => z⟩
    cases o with
    | nx τ' => exact fun σ' H' F' fps' S' L => ⟨G, F0, H0, b0, F', τ', b', fps', s0, f0, S', ho.imp (fun o b h => SQ.lift L h) fun _ _ _ z => z⟩
    | bk τ' => exact ho
    | rt u => exact ho
theorem ss_kill {is : List Nat} (h : SSs X rp call W sts ss) : SSs X rp call W sts (.kill is ss) :=
  PSs.imp h fun D σ H ⟨G, F0, H0, b0, F, τ, b, fps, s0, f0, S, h⟩ => by
    obtain ⟨fps', S'⟩ := S.drops is
    exact ⟨G, F0, H0, b0, F, _, b, fps', s0, f0, S', h⟩
theorem ss_bad : SS X rp call W st .bad := ⟨fun pins s σ H D I ⟨G, F0, H0, b0, F, τ, b, fps, s0, f0, S, h⟩ => h.elim⟩
theorem ss_pass : SS X rp call W (.Pass pos) .pass := PS.imp ps_pass fun D σ H ⟨G, F0, H0, b0, F, τ, b, fps, s0, f0, S, h⟩ => h σ H F fps S Lift.refl
theorem ss_brk : SS X rp call W (.Break pos) .brk := PS.imp ps_break fun D σ H ⟨G, F0, H0, b0, F, τ, b, fps, s0, f0, S, h⟩ => h σ H F fps S Lift.refl
/-- new things are shared from now on -/
theorem SR.fzfp (s0 : SInv G b0 H0) (S : SR G F0 H0 F H σ τ b fps) {fp : List Addr} (ft : Fit H0 F fps fp) (th : ∀ a ∈ fp, ∃ o, H a = some o) : SR G F0 H0 (por F fp) H σ τ b fps where
  stp := S.stp.freeze s0 (fun a ha => (ft.own a ha).1) th
  len := S.len
  vw := fun i u e => by
    obtain ⟨v, h1, h2⟩ := S.vw i u e
    exact ⟨v, h1, h2.lift ⟨⟨fun _ => .inl, fun _ _ e _ => e⟩, fun _ _ _ e => e⟩⟩
  emp := S.emp
  own := fun i => ⟨(S.own i).1, fun a ha => ⟨((S.own i).2 a ha).1, fun f => f.elim ((S.own i).2 a ha).2 fun k => ft.dis a k i ha⟩⟩
  dis := S.dis
theorem shV {F2 : Fz} {l : Nat} (hl : ¬ l = 2) : ∀ {vs : List V} {us : List T}, Reps G F2 H1 vs us → RepVs G F2 H1 vs (us.map fun t => ⟨t, if t.nomut then 2 else if l = 2 then 2 else 0⟩) []
  | _, [], .nil => .nil
  | _ :: _, t :: us, .cons q qs => by
    refine RepVs.cons (fp := []) (fp' := []) ?_ (shV hl qs)
    dsimp only
    rw [if_neg hl]
    exact repV_rd q
theorem plV {F2 : Fz} {l : Nat} : ∀ {vs : List V} {us : List T}, nomuts us = true → Reps G F2 H1 vs us → RepVs G F2 H1 vs (us.map fun t => ⟨t, if t.nomut then 2 else if l = 2 then 2 else 0⟩) []
  | _, [], _, .nil => .nil
  | _ :: _, t :: us, hn, .cons q qs => by
    have hn : (t.nomut && nomuts us) = true := hn
    rw [Bool.and_eq_true] at hn
    refine RepVs.cons (fp := []) (fp' := []) ?_ (plV hn.2 qs)
    dsimp only
    rw [if_pos hn.1]
    exact RepD.sh hn.1 q
theorem dpV {F2 : Fz} : ∀ {vs : List V} {us : List T} {fp : List Addr}, RepDs G F2 H1 vs us fp → RepVs G F2 H1 vs (us.map fun t => ⟨t, if t.nomut then 2 else if 2 = 2 then 2 else 0⟩) fp
  | _, [], _, .nil => .nil
  | _ :: _, t :: us, _, .cons q qs => by
    refine RepVs.cons ?_ (dpV qs)
    have e : (if t.nomut = true then 2 else if 2 = 2 then 2 else 0) = 2 := by split <;> rfl
    dsimp only
    rw [e]
    exact q
/-- a tuple's parts -/
theorem tup_parts (s0 : SInv G b0 H0) (S : SR G F0 H0 F H σ τ b fps) {v : V} {us : List T} {lv : Nat} {fp : List Addr} (r : RepV G F H v ⟨.tup us, lv⟩ fp) (ft : Fit H0 F fps fp) :
    ∃ F3 a vs fp', SR G F0 H0 F3 H σ τ b fps ∧ Lift G F F3 H H ∧ v = .ref a ∧ H a = some (.tup vs) ∧ RepVs G F3 H vs (us.map fun t => ⟨t, if t.nomut then 2 else if lv = 2 then 2 else 0⟩) fp' ∧ Fit H0 F3 fps fp' := by
  have fit0 : ∀ F, Fit H0 F fps [] := fun _ => ⟨List.nodup_nil, (fun _ k => nomatch k), fun _ k => nomatch k⟩
  match lv, r with
  | 0, r =>
    obtain ⟨r3, _⟩ := r
    cases r3 with
    | @tup a vs _ e q => exact ⟨F, a, vs, [], S, Lift.refl, rfl, e, shV (by decide) q, fit0 _⟩
  | 1, r =>
    obtain ⟨a, _, _, q⟩ := r
    rcases q with ⟨_, _, e, _⟩ | ⟨_, _, e, _⟩ <;> cases e
  | 2, r =>
    have r3 : RepD G F H v (.tup us) fp := r
    cases r3 with
    | sh n r3 =>
      cases r3 with
      | @tup a vs _ e q => exact ⟨F, a, vs, [], S, Lift.refl, rfl, e, plV n q, fit0 _⟩
    | @tup a vs _ fp e q => exact ⟨F, a, vs, fp, S, Lift.refl, rfl, e, dpV q, ft⟩
  | 3, r =>
    have rs := r.share
    cases rs with
    | @tup a vs _ e q => exact ⟨por F fp, a, vs, [], S.fzfp s0 ft r.there, ⟨fun _ => .inl, fun _ _ e _ => e⟩, rfl, e, shV (by decide) q, fit0 _⟩
  | n + 4, r => exact r.elim
theorem setAll_vals {α : Type} {l : Nat} {Qa : α → Nat → Prop} {E : Nat → T → Nat → Prop} {f : TM.Env → R α} : ∀ {is : List Nat} {us : List T} {τ : TM.Env}, Sat Qa E (setAll is us (if l = 2 then 2 else 0) τ >>= f) b → ∃ τ', setVals is (us.map fun t => ⟨t, if t.nomut then 2 else if l = 2 then 2 else 0⟩) τ = .ok τ' ∧ Sat Qa E (f τ') b
  | [], [], τ, h => ⟨τ, rfl, h⟩
  | [], _ :: _, τ, h => h.elim
  | _ :: _, [], τ, h => h.elim
  | i :: is, u :: us, τ, h => setAll_vals (is := is) (us := us) h
/-- a value stored at a target -/
theorem asg_read {tg : Tg} {fz : List Nat} {K : PySem.W.Frag} (h : tS rp call W (.asg tg A fz) D σ H) : tE rp call W A σ H fun x H1 => gTg K tg x σ H1 D.nx := by
  obtain ⟨G, F0, H0, b0, F, τ, b, fps, s0, f0, S, h⟩ := h
  have h : Sat (SQ G F0 H0 F H D) (ES G F0 H0 W) (evE rp call A (hide fz τ) >>= fun v => setTg tg v (after fz v τ) >>= fun τ' => R.ok (Out.nx τ')) b := h
  refine ⟨G, _, hide fz τ, b, S.preH s0 fz, ((sat_bind _ _).1 h).imp (fun u b1 hu v H1 F1 fp st r o => ?_) fun _ _ _ z => z.see s0 S⟩
  obtain ⟨F2, fps2, S2, L, r2, ft, _⟩ := S.afterV s0 st r o
  cases tg with
  | nm i =>
    obtain ⟨fps3, S3, _⟩ := S2.store (i := i) r2 ft
    exact hu _ _ _ _ S3 L
  | tp is =>
    obtain ⟨t, lv⟩ := u
    cases t
    case tup us =>
      have hu : Sat (SQ G F0 H0 F H D) (ES G F0 H0 W) (setAll is us (if lv = 2 then 2 else 0) (after fz ⟨.tup us, lv⟩ τ) >>= fun τ' => R.ok (Out.nx τ')) b1 := hu
      obtain ⟨F3, a, vs, fp', S3, L3, rfl, e, q, ft'⟩ := tup_parts s0 S2 r2 ft
      obtain ⟨τ3, hτ3, hu3⟩ := setAll_vals hu
      obtain ⟨fps3, S3, hl⟩ := S3.storeAll (is := is) q ft' hτ3
      exact ⟨a, vs, rfl, SqT.of e, hl.symm, gNames_iff hl (hu3 _ _ _ _ S3 (L.trans L3))⟩
    all_goals exact hu.elim
end
end TM

set_option Elab.async false
set_option linter.all false
set_option maxRecDepth 100000
set_option maxHeartbeats 4000000
namespace TM
open PySem PySem.Spec L2
section
variable {X : Cx} {rp : T → Str} {call : Nat → List T → R Val} {W : XW} {G : Gb} {F0 F F1 F2 : Fz} {H0 H H1 : Hp} {b0 b b1 : Nat} {σ : St} {τ τ2 : TM.Env} {fps fps2 : Fps} {D : Ends} {pos p p2 apos tpos : Pos} {e ea eb ec tge iter elt : Expr} {es elts ifs : List Expr} {A B C : E} {As Bs : Es} {kk : Nat} {st : Stmt} {sts sts2 : List Stmt} {s : S} {ss ss2 : Ss} {I : It} {tg : Tg} {fz : List Nat} {v : V} {u : Val} {fp : List Addr}

/-- a value goes to its target -/
theorem tgt_store {α : Type} {Qa : α → Nat → Prop} {Ea : Nat → T → Nat → Prop} {f : TM.Env → R α} {Rq : St → Hp → Prop} {K : PySem.W.Frag} (h3 : u.lv ≠ 3) (S2 : SR G F0 H0 F2 H1 σ τ2 b1 fps2) (r2 : RepV G F2 H1 v u fp) (ft : Fit H0 F2 fps2 fp)
    (hu : Sat Qa Ea (setTg tg u τ2 >>= f) b1) (k : ∀ σ' τ' fps', SR G F0 H0 F2 H1 σ' τ' b1 fps' → Sat Qa Ea (f τ') b1 → Rq σ' H1) : gTg K tg v σ H1 Rq := by
  cases tg with
  | nm i =>
    obtain ⟨fps3, S3, _⟩ := S2.store (i := i) r2 ft
    exact k _ _ _ S3 hu
  | tp is =>
    obtain ⟨t, lv⟩ := u
    cases t
    case tup us =>
      have hu : Sat Qa Ea (setAll is us (if lv = 2 then 2 else 0) τ2 >>= f) b1 := hu
      obtain ⟨a, vs, fp', rfl, e, q, ft'⟩ : ∃ a vs fp', v = .ref a ∧ H1 a = some (.tup vs) ∧ RepVs G F2 H1 vs (us.map fun t => ⟨t, if t.nomut then 2 else if lv = 2 then 2 else 0⟩) fp' ∧ Fit H0 F2 fps2 fp' := by
        have fit0 : Fit H0 F2 fps2 [] := ⟨List.nodup_nil, (fun _ k => nomatch k), fun _ k => nomatch k⟩
        match lv, r2 with
        | 0, r2 =>
          obtain ⟨r3, _⟩ := r2
          cases r3 with
          | @tup a vs _ e q => exact ⟨a, vs, [], rfl, e, shV (by decide) q, fit0⟩
        | 1, r2 =>
          obtain ⟨a, _, _, q⟩ := r2
          rcases q with ⟨_, _, e, _⟩ | ⟨_, _, e, _⟩ <;> cases e
        | 2, r2 =>
          have r3 : RepD G F2 H1 v (.tup us) fp := r2
          cases r3 with
          | sh n r3 =>
            cases r3 with
            | @tup a vs _ e q => exact ⟨a, vs, [], rfl, e, plV n q, fit0⟩
          | @tup a vs _ fp e q => exact ⟨a, vs, fp, rfl, e, dpV q, ft⟩
        | 3, r2 => exact absurd rfl h3
        | n + 4, r2 => exact r2.elim
      obtain ⟨τ3, hτ3, hu3⟩ := setAll_vals hu
      obtain ⟨fps3, S3, hl⟩ := S2.storeAll (is := is) q ft' hτ3
      exact ⟨a, vs, rfl, SqT.of e, hl.symm, gNames_iff hl (k _ _ _ S3 hu3)⟩
    all_goals exact hu.elim

theorem ss_asg {i : Nat} {x : Str} (hN : X.N.Nodup) (hi : X.N[i]? = some x) (hx : Loc X.env.scope x) (hf : X.fn x = true ∨ X.env.scope.names.lookup x = some .local) (he : SE X rp call W e A) (hs : swapsWith e (some (.Name x p)) pos.line X.env = pure false) :
    SS X rp call W (.Assign [.Name x p] e pos) (.asg (.nm i) A fz) := PS.imp (ps_set hN hi hx he hs hf) fun D σ H h => asg_read (K := X.K) (tg := .nm i) h
theorem ss_asgG (hg : PG X tge (gTg X.K tg)) (he : SE X rp call W e A) (hs : swapsWithSole [tge] e pos.line X.env = pure false) (hw : swappedStores [tge] e X.env = pure none) (h1 : (assignEach [tge] X.env).map (·.2) = [assign tge X.env]) :
    SS X rp call W (.Assign [tge] e pos) (.asg tg A fz) := PS.imp (ps_asg he hg hs hw h1) fun D σ H h => asg_read h
theorem ss_asgLc {i : Nat} {y : Str} {tgl : Tg} {cs : Es} {own : List Nat} {ownN : List (Str × Nat)} {elt' : E} {scope : Scope} {spos : Pos} (hc : X.calm = true) (hN : X.N.Nodup) (hy : X.N[i]? = some y) (hyl : X.env.scope.names.lookup y = some .local)
    (hsw : swapsWith (.ListComp elt [⟨tge, iter, ifs, 0⟩] scope pos) (some (.Name y p)) spos.line X.env = pure true) (ok : BlkOk X.N X.env.scope scope ownN) (hown : ownN.map (·.2) = own)
    (hi : SI X rp call W tge iter I)
    (hg : ∀ (s : Shared) (H : Hp) (C : Addr) (cl : List (Str × Addr)) (fp : List Addr), PG (X.blk s H scope (compEnvC scope cl C X.env) fp) tge (gTg X.K tgl)) (hsl : ∀ i ∈ tgl.slots, i ∈ own)
    (ht : ∀ (s : Shared) (H : Hp) (C : Addr) (cl : List (Str × Addr)) (fp : List Addr), SCs (X.blk s H scope (compEnvC scope cl C X.env) fp) rp call W0 ifs cs)
    (he : ∀ (s : Shared) (H : Hp) (C : Addr) (cl : List (Str × Addr)) (fp : List Addr), SE (X.blk s H scope (compEnvC scope cl C X.env) fp) rp call W0 elt elt') (hs : ∀ x, foldedSetIterable iter X.env x = pure x) :
    SS X rp call W (.Assign [.Name y p] (.ListComp elt [⟨tge, iter, ifs, 0⟩] scope pos) spos) (.asg (.nm i) (.lc elt' tgl I cs own) fz) := by
  subst hown
  exact PS.imp (ps_setLc hc hN hy hyl hsw hi ok hg ht he hs) fun D σ H h => lc_read (K := X.K) hsl (asg_read (K := X.K) (tg := .nm i) h)
theorem ss_exp (he : SE X rp call W e A) (hs : swapsWith e none pos.line X.env = pure false) : SS X rp call W (.Expr e pos) (.exp A) :=
  PS.imp (ps_expr he hs) fun D σ H ⟨G, F0, H0, b0, F, τ, b, fps, s0, f0, S, h⟩ => by
    refine ⟨G, _, τ, b, S.pre s0, ((sat_bind _ _).1 h).imp (fun u b1 hu v H1 F1 fp st r o => ?_) fun _ _ _ z => z.see s0 S⟩
    exact hu σ H1 _ fps (S.behind s0 st) (S.behindLift s0 st)
theorem ss_ret (he : SE X rp call W e A) : SS X rp call W (.Return (some e) pos) (.ret A) :=
  PS.imp (ps_ret he) fun D σ H ⟨G, F0, H0, b0, F, τ, b, fps, s0, f0, S, h⟩ => by
    refine ⟨G, _, τ, b, S.pre s0, ((sat_bind _ _).1 h).imp (fun u b1 hu v H1 F1 fp st r o => ?_) fun _ _ _ z => z.see s0 S⟩
    exact hu v H1 F1 fp (S.stpSee s0 st) r ⟨o.1, fun a ha => ⟨none_back s0 S.stp.inv S.stp.ext (o.2 a ha).1, (o.2 a ha).2⟩⟩
theorem ss_retv {i : Nat} {x : Str} (hN : X.N[i]? = some x) (hv : Vis X.env.scope x) (hd : (x == ("__debug__" : Str)) = false) (hcd : (x == ("__classdict__" : Str)) = false) : SS X rp call W (.Return (some (.Name x p)) pos) (.retv i) :=
  PS.imp (ps_ret (pe_var hN hv hd hcd)) fun D σ H ⟨G, F0, H0, b0, F, τ, b, fps, s0, f0, S, h⟩ => by
    unfold evS at h
    split at h
    · rename_i u e
      obtain ⟨v, h1, h2⟩ := S.vw i u e
      exact ⟨v, h1, h v H F (fps i) S.stp h2 (S.own i)⟩
    · exact h.elim
theorem ss_retn : SS X rp call W (.Return none pos) .retn :=
  PS.imp ps_retN fun D σ H ⟨G, F0, H0, b0, F, τ, b, fps, s0, f0, S, h⟩ => h .non H F [] S.stp (RepD.sh rfl .non) ⟨List.nodup_nil, fun _ k => nomatch k⟩
theorem ss_mov {i j : Nat} {x y : Str} (hN : X.N.Nodup) (hi : X.N[i]? = some x) (hx : Loc X.env.scope x) (hf : X.fn x = true ∨ X.env.scope.names.lookup x = some .local) (hj : X.N[j]? = some y) (hv : Vis X.env.scope y) (hd : (y == ("__debug__" : Str)) = false) (hcd : (y == ("__classdict__" : Str)) = false) :
    SS X rp call W (.Assign [.Name x p] (.Name y p2) pos) (.mov i j) :=
  PS.imp (ps_set hN hi hx (pe_var hj hv hd hcd) rfl hf) fun D σ H ⟨G, F0, H0, b0, F, τ, b, fps, s0, f0, S, h⟩ => by
    unfold evS at h
    split at h
    · rename_i u e
      obtain ⟨v, h1, h2⟩ := S.vw j u e
      have S1 := S.drop j
      obtain ⟨fps3, S3, _⟩ := S1.store (i := i) h2 ⟨(S.own j).1, (S.own j).2, fun a ha k hk => by
        split at hk
        · cases hk
        · rename_i hne; exact hne (S.dis k j a hk ha)⟩
      exact ⟨v, h1, h _ _ _ _ S3 Lift.refl⟩
    · exact h.elim
theorem ss_iff (hc : SC X rp call W ec C) (ha : SSs X rp call W sts ss) (hb : SSs X rp call W sts2 ss2) : SS X rp call W (.If ec sts sts2 pos) (.iff C ss ss2) :=
  PS.imp (ps_if hc ha hb) fun D σ H ⟨G, F0, H0, b0, F, τ, b, fps, s0, f0, S, h⟩ => by
    have e : evS rp call (.iff C ss ss2) τ = ((evE rp call C τ >>= fun v => truthy v.t) >>= fun r => match r with | true => evSs rp call ss τ | false => evSs rp call ss2 τ) := by
      rw [bind_assoc]; rfl
    rw [e] at h
    refine ⟨G, _, τ, b, S.pre s0, ((sat_bind _ _).1 h).imp (fun c b1 hc H1 F1 st => ?_) fun _ _ _ z => z.see s0 S⟩
    cases c
    · exact ⟨G, F0, H0, b0, _, τ, b1, fps, s0, f0, S.behind s0 st, hc.imp (fun _ _ z => SQ.lift (S.behindLift s0 st) z) fun _ _ _ z => z⟩
    · exact ⟨G, F0, H0, b0, _, τ, b1, fps, s0, f0, S.behind s0 st, hc.imp (fun _ _ z => SQ.lift (S.behindLift s0 st) z) fun _ _ _ z => z⟩

/-! ### loops -/
/-- the names stand where others make things -/
theorem SR.step (s0 : SInv G b0 H0) (S : SR G F0 H0 F H σ τ b fps) (st : Stp G F H F1 H1 b1) : SR G F0 H0 F1 H1 σ τ b1 fps where
  stp := S.stp.trans s0 st
  len := S.len
  vw := fun i u e => by
    obtain ⟨v, h1, h2⟩ := S.vw i u e
    exact ⟨v, h1, own_lift S.stp.inv S.stp.ok st h2 fun a ha => S.novol s0 ha⟩
  emp := S.emp
  own := fun i => ⟨(S.own i).1, fun a ha => ⟨((S.own i).2 a ha).1, own_out st (fun a ha => S.there ha) (fun a ha => ((S.own i).2 a ha).2) a ha⟩⟩
  dis := S.dis
theorem fit_nil : Fit H0 F fps [] := ⟨List.nodup_nil, (fun _ k => nomatch k), fun _ k => nomatch k⟩
def stepF (rp : T → Str) (call : Nat → List T → R Val) (tg : Tg) (ss : Ss) (x : T) (τ : TM.Env) : R Out := do
  let τ' ← setTg tg x.rd τ
  evSs rp call ss τ'
/-- the turns of a for: Fw, Hw: what the walked things lean on -/
theorem for_read {J : L2.It} {xs : List T} {Fw : Fz} {Hw : Hp} {K : PySem.W.Frag} (s0 : SInv G b0 H0) (f0 : FOk G F0 H0) (S : SR G F0 H0 F1 H1 σ τ b1 fps) (tw : TW G Fw Hw J xs) (Lw : Lift G Fw F1 Hw H1)
    (h : Sat (SQ G F0 H0 F1 H1 D) (ES G F0 H0 W) (forT (stepF rp call tg ss) xs τ) b1) :
    ∃ Wt : Nat → Nat → St → Hp → Prop, (∃ m, Wt 0 m σ H1) ∧ ∀ i m σ H, Wt i m σ H →
      (J.stop i H ∧ D.nx σ H) ∨ (J.go i H ∧ ∃ N : St → Hp → Prop, (∀ σ' H', N σ' H' → ∃ m', m' < m ∧ Wt (i + 1) m' σ' H') ∧ ∀ x H', J.yld i H x H' → gTg K tg x σ H' fun σ2 H2 => tSs rp call W ss { D with nx := N, ct := N, bk := D.nx } σ2 H2) := by
  refine ⟨fun i m σ' H' => m = xs.length - i ∧ i ≤ xs.length ∧ ∃ F' τ' b' fps', SR G F0 H0 F' H' σ' τ' b' fps' ∧ Lift G F1 F' H1 H' ∧ Sat (SQ G F0 H0 F1 H1 D) (ES G F0 H0 W) (forT (stepF rp call tg ss) (xs.drop i) τ') b',
    ⟨xs.length, by simp, Nat.zero_le _, F1, τ, b1, fps, S, Lift.refl, h⟩, ?_⟩
  rintro i m σ' H' ⟨rfl, hi, F', τ', b', fps', S', L, hq⟩
  obtain ⟨tw1, tw2⟩ := tw F' H' b' S'.stp.ok S'.stp.inv (Lw.trans L)
  by_cases hlt : i < xs.length
  · have hget : xs[i]? = some xs[i] := List.getElem?_eq_getElem hlt
    refine .inr ⟨(tw1 i _ hget).1, fun σ2 H2 => ∃ F2 τ2 b2 fps2, SR G F0 H0 F2 H2 σ2 τ2 b2 fps2 ∧ Lift G F1 F2 H1 H2 ∧ Sat (SQ G F0 H0 F1 H1 D) (ES G F0 H0 W) (forT (stepF rp call tg ss) (xs.drop (i + 1)) τ2) b2,
      fun σ2 H2 hI => ⟨xs.length - (i + 1), by omega, rfl, hlt, hI⟩, fun x H2 hy => ?_⟩
    obtain ⟨st2, rx⟩ := (tw1 i _ hget).2 x H2 hy
    rw [drop_get hget] at hq
    have S2 := S'.step s0 st2
    have L2 : Lift G F1 F' H1 H2 := L.trans (st2.lift S'.stp.inv S'.stp.ok)
    have hq : Sat (SQ G F0 H0 F1 H1 D) (ES G F0 H0 W) ((setTg tg (xs[i]).rd τ' >>= fun τ' => evSs rp call ss τ') >>= fun
      | .nx τ' => forT (stepF rp call tg ss) (xs.drop (i + 1)) τ'
      | .bk τ' => R.ok (.nx τ')
      | .rt v => R.ok (.rt v)) b' := hq
    rw [bind_assoc] at hq
    refine tgt_store (by unfold T.rd; split <;> exact fun z => nomatch z) S2 (repV_rd rx) fit_nil hq fun σ3 τ3 fps3 S3 hq3 => ?_
    refine ⟨G, F0, H0, b0, F', τ3, b', fps3, s0, f0, S3, ((sat_bind _ _).1 hq3).imp (fun o b4 ho => ?_) fun _ _ _ z => z⟩
    cases o with
    | nx τ4 => exact fun σ4 H4 F4 fps4 S4 L4 => ⟨F4, τ4, b4, fps4, S4, L2.trans L4, ho⟩
    | bk τ4 => exact fun σ4 H4 F4 fps4 S4 L4 => ho σ4 H4 F4 fps4 S4 (L2.trans L4)
    | rt u => exact ho
  · have ei : i = xs.length := by omega
    subst ei
    refine .inl ⟨tw2, ?_⟩
    rw [List.drop_length] at hq
    exact hq _ _ _ _ S' L
theorem ss_for (hp : PassesOwn (model X.prog X.w) X.A X.env X.xe) (hc : X.calm = true) (hi : SI X rp call W tge iter I) (hg : PG X tge (gTg X.K tg)) (hb : SSs X rp call W sts ss) (hs : ∀ x, foldedSetIterable iter X.env x = pure x) :
    SS X rp call W (.For tge iter sts [] pos) (.for tg I ss fz) :=
  PS.imp (ps_for hp hc hi hg hb hs) fun D σ H ⟨G, F0, H0, b0, F, τ, b, fps, s0, f0, S, h⟩ => by
    have h : Sat (SQ G F0 H0 F H D) (ES G F0 H0 W) (evI rp call I (hide fz τ) >>= fun xs => forT (stepF rp call tg ss) xs (frz fz τ)) b := h
    refine ⟨G, _, hide fz τ, b, S.preH s0 fz, ((sat_bind _ _).1 h).imp (fun xs b1 hx J H1 F1 st tw => ?_) fun _ _ _ z => z.see s0 S⟩
    exact for_read s0 f0 (S.frozen s0 st) tw Lift.refl (hx.imp (fun _ _ z => SQ.lift (S.frozenLift s0 st) z) fun _ _ _ z => z)
/-- what is walked leans on nothing -/
def tIr (rp : T → Str) (call : Nat → List T → R Val) (W : XW) (I : It) : TI := fun σ H R => ∃ G F τ b, Pre G F H σ τ b ∧
  Sat (fun xs b' => ∀ J H1 F1, Stp G F H F1 H1 b' → TW G (fun _ => False) (fun _ => none) J xs → R J H1) (ES G F H W) (evI rp call I τ) b
abbrev SIr (X : Cx) (rp : T → Str) (call : Nat → List T → R Val) (W : XW) (tg e : Expr) (I : It) : Prop := PI X tg e (tIr rp call W I)
theorem oneIr {f : Val → R (List T)} {R : L2.It → Hp → Prop} {F : Fz} {H : Hp} {σ : St} {τ : TM.Env} (pre : Pre G F H σ τ b) {Rq : V → Hp → Prop}
    (h : Sat (fun xs b' => ∀ J H1 F1, Stp G F H F1 H1 b' → TW G (fun _ => False) (fun _ => none) J xs → R J H1) (ES G F H W) (do let x ← evE rp call A τ; f x) b)
    (k : ∀ x v F1 H1 b1, Stp G F H F1 H1 b1 → Rep G F1 H1 v x.t → Sat (fun xs b' => ∀ J H2 F2, Stp G F1 H1 F2 H2 b' → TW G (fun _ => False) (fun _ => none) J xs → R J H2) (ES G F1 H1 W) (f x) b1 → Rq v H1) : tE rp call W A σ H Rq :=
  one pre h (fun _ _ _ z => z) fun x v F1 H1 b1 st r hx => k x v F1 H1 b1 st r (hx.imp (fun xs b' q J H2 F2 st2 => q J H2 F2 (st.trans pre.inv st2)) fun _ _ _ z => z.next pre.inv st)
theorem sir_rng1 (hg : Gl X "range") (hm : X.mg "range" = none) (ha : SE X rp call W ea A) (hs : starEach [ea] X.env = [(false, eval ea X.env)]) : SIr X rp call W tge (.Call (.Name "range" p) [ea] [] pos) (.rng1 A) := by
  refine PI.imp (pi_range1 hg hm (pa_cons ha pa_nil hs) hs) fun σ H R ⟨G, F, τ, b, pre, h⟩ => ?_
  refine oneIr pre h fun ⟨x, lx⟩ v F1 H1 b1 st r hx => ?_
  cases r with
  | int i =>
    obtain ⟨hl, hx⟩ := sat_ite hx
    exact ⟨i, rfl, by omega, by omega, hx _ H1 F1 (Stp.refl st.ok st.inv) tw_rng⟩
  | _ => exact hx.elim
theorem sir_rng2 (hg : Gl X "range") (hm : X.mg "range" = none) (ha : SE X rp call W ea A) (hb : SE X rp call W eb B) (hs : starEach [ea, eb] X.env = [(false, eval ea X.env), (false, eval eb X.env)]) (hs2 : starEach [eb] X.env = [(false, eval eb X.env)]) :
    SIr X rp call W tge (.Call (.Name "range" p) [ea, eb] [] pos) (.rng2 A B) := by
  refine PI.imp (pi_range2 hg hm (pa_cons ha (pa_cons hb pa_nil hs2) (by rw [hs, hs2])) hs hs2) fun σ H R ⟨G, F, τ, b, pre, h⟩ => ?_
  refine oneIr pre h fun ⟨x, lx⟩ v F1 H1 b1 st1 r1 hx => oneIr (pre.next st1) hx fun ⟨y, ly⟩ w F2 H2 b2 st r2 hx2 => ?_
  cases r1 with
  | int i =>
    cases r2 with
    | int j =>
      obtain ⟨hl, hx3⟩ := sat_ite hx2
      exact ⟨i, j, rfl, by omega, hx3 _ H2 F2 (Stp.refl st.ok st.inv) tw_rng⟩
    | _ => exact hx2.elim
  | _ => exact (show False from hx2).elim
theorem lift_empty : Lift G (fun _ => False) F1 (fun _ => none) H1 := ⟨fun _ f => f.elim, fun _ _ e _ => nomatch e⟩
theorem ss_forr (hp : PassesOwn (model X.prog X.w) X.A X.env X.xe) (hc : X.calm = true) (hi : SIr X rp call W tge iter I) (hg : PG X tge (gTg X.K tg)) (hb : SSs X rp call W sts ss) (hs : ∀ x, foldedSetIterable iter X.env x = pure x) :
    SS X rp call W (.For tge iter sts [] pos) (.forr tg I ss) :=
  PS.imp (ps_for hp hc hi hg hb hs) fun D σ H ⟨G, F0, H0, b0, F, τ, b, fps, s0, f0, S, h⟩ => by
    have h : Sat (SQ G F0 H0 F H D) (ES G F0 H0 W) (evI rp call I τ >>= fun xs => forT (stepF rp call tg ss) xs τ) b := h
    refine ⟨G, _, τ, b, S.pre s0, ((sat_bind _ _).1 h).imp (fun xs b1 hx J H1 F1 st tw => ?_) fun _ _ _ z => z.see s0 S⟩
    exact for_read s0 f0 (S.behind s0 st) tw lift_empty (hx.imp (fun _ _ z => SQ.lift (S.behindLift s0 st) z) fun _ _ _ z => z)
theorem ss_whl {n : Nat} (hp : PassesOwn (model X.prog X.w) X.A X.env X.xe) (hc : SC X rp call W ec C) (hb : SSs X rp call W sts ss) : SS X rp call W (.While ec sts [] pos) (.whl n C ss) :=
  PS.imp (ps_while hp hc hb) fun D σ H ⟨G, F0, H0, b0, F, τ, b, fps, s0, f0, S, h⟩ => by
    have h : Sat (SQ G F0 H0 F H D) (ES G F0 H0 W) (whlT (fun τ => do let v ← evE rp call C τ; truthy v.t) (fun τ => evSs rp call ss τ) n τ) b := h
    refine ⟨fun m σ' H' => ∃ F' τ' b' fps', SR G F0 H0 F' H' σ' τ' b' fps' ∧ Lift G F F' H H' ∧ Sat (SQ G F0 H0 F H D) (ES G F0 H0 W) (whlT (fun τ => do let v ← evE rp call C τ; truthy v.t) (fun τ => evSs rp call ss τ) m τ') b', ⟨n, F, τ, b, fps, S, Lift.refl, h⟩, ?_⟩
    rintro m σ' H' ⟨F', τ', b', fps', S', L, hq⟩
    cases m with
    | zero => exact hq.elim
    | succ m =>
      refine ⟨G, _, τ', b', S'.pre s0, ((sat_bind _ _).1 hq).imp (fun c b1 hc H1 F1 st => ?_) fun _ _ _ z => z.see s0 S'⟩
      have S1 := S'.behind s0 st
      have L1 := L.trans (S'.behindLift s0 st)
      cases c
      · exact (show SQ G F0 H0 F H D (.nx τ') b1 from hc) _ _ _ _ S1 L1
      · refine ⟨fun σ2 H2 => ∃ F2 τ2 b2 fps2, SR G F0 H0 F2 H2 σ2 τ2 b2 fps2 ∧ Lift G F F2 H H2 ∧ Sat (SQ G F0 H0 F H D) (ES G F0 H0 W) (whlT (fun τ => do let v ← evE rp call C τ; truthy v.t) (fun τ => evSs rp call ss τ) m τ2) b2,
          fun σ2 H2 hI => ⟨m, Nat.lt_succ_self _, hI⟩, G, F0, H0, b0, _, τ', b1, fps', s0, f0, S1, ((sat_bind _ _).1 hc).imp (fun o b4 ho => ?_) fun _ _ _ z => z⟩
        cases o with
        | nx τ4 => exact fun σ4 H4 F4 fps4 S4 L4 => ⟨F4, τ4, b4, fps4, S4, L1.trans L4, ho⟩
        | bk τ4 => exact fun σ4 H4 F4 fps4 S4 L4 => ho σ4 H4 F4 fps4 S4 (L1.trans L4)
        | rt u => exact ho
end
end TM

set_option Elab.async false
set_option linter.all false
set_option maxRecDepth 100000
set_option maxHeartbeats 4000000
namespace TM
open PySem PySem.Spec L2
section
variable {X : Cx} {rp : T → Str} {call : Nat → List T → R Val} {W : XW} {G : Gb} {F0 F F1 F2 F3 : Fz} {H0 H H1 : Hp} {b0 b b1 : Nat} {σ : St} {τ τ2 : TM.Env} {fps fps2 : Fps} {D : Ends} {pos p p2 apos cpos tpos : Pos} {e ea eb ec tge iter elt : Expr} {es elts ifs : List Expr} {A B C : E} {As Bs : Es} {kk : Nat} {st : Stmt} {sts sts2 : List Stmt} {s : S} {ss ss2 : Ss} {I : It} {tg : Tg} {fz : List Nat} {v w : V} {u : Val} {fp fp3 : List Addr} {a : Addr} {o : HO} {i : Nat} {u3 : Val}

theorem kind_cons {fp : List Addr} {a : Addr} (h : (∃ xs, H a = some (.lst xs)) ∨ ∃ kvs, H a = some (.dK kvs)) (r : ∀ c ∈ fp, (∃ xs, H c = some (.lst xs)) ∨ ∃ kvs, H c = some (.dK kvs)) : ∀ c ∈ a :: fp, (∃ xs, H c = some (.lst xs)) ∨ ∃ kvs, H c = some (.dK kvs) := fun c hc => by
  rcases List.mem_cons.mp hc with rfl | hc
  · exact h
  · exact r c hc
mutual
theorem RepD.kind : ∀ {v : V} {t : T} {fp : List Addr}, RepD G F H v t fp → ∀ a ∈ fp, (∃ xs, H a = some (.lst xs)) ∨ ∃ kvs, H a = some (.dK kvs)
  | _, _, _, .sh _ _ => fun a h => nomatch h
  | _, _, _, .lst e r => kind_cons (.inl ⟨_, e⟩) (RepDs.kind r)
  | _, _, _, .tup _ r => RepDs.kind r
  | _, _, _, .dct e r => kind_cons (.inr ⟨_, e⟩) (RepDs.kind r)
theorem RepDs.kind : ∀ {vs : List V} {us : List T} {fp : List Addr}, RepDs G F H vs us fp → ∀ a ∈ fp, (∃ xs, H a = some (.lst xs)) ∨ ∃ kvs, H a = some (.dK kvs)
  | _, _, _, .nil => fun a h => nomatch h
  | _, _, _, .cons r rs => fun a h => by
    rcases List.mem_append.mp h with h | h
    · exact RepD.kind r a h
    · exact RepDs.kind rs a h
end
theorem RepV.kind {v : V} {u : Val} {fp : List Addr} (r : RepV G F H v u fp) : ∀ a ∈ fp, (∃ xs, H a = some (.lst xs)) ∨ ∃ kvs, H a = some (.dK kvs) := by
  obtain ⟨t, lv⟩ := u
  match lv, r with
  | 0, r => intro a h; rw [r.2] at h; exact nomatch h
  | 1, r =>
    obtain ⟨a, rfl, rfl, h⟩ := r
    refine kind_cons ?_ fun _ k => nomatch k
    rcases h with ⟨vs, us, _, e, _⟩ | ⟨kvs, us, _, e, _⟩
    · exact .inl ⟨_, e⟩
    · exact .inr ⟨_, e⟩
  | 2, r => exact RepD.kind r
  | 3, r => exact r.2.2
  | n + 4, r => exact r.elim
theorem SR.notup (S : SR G F0 H0 F H σ τ b fps) {i : Nat} {a : Addr} (h : a ∈ fps i) {xs : List V} : H a ≠ some (.tup xs) := fun q => by
  cases e : τ[i]? with
  | none => rw [S.emp i (fun u q => by rw [e] at q; cases q)] at h; cases h
  | some w =>
    cases w with
    | none => rw [S.emp i (fun u q => by rw [e] at q; cases q)] at h; cases h
    | some u =>
      obtain ⟨v, _, r⟩ := S.vw i u e
      rcases r.kind a h with ⟨_, z⟩ | ⟨_, z⟩
      · rw [q] at z; cases z
      · rw [q] at z; cases z

/-- the list (dict) at a that the i-th name owns is changed; P: what is frozen thereby -/
theorem SR.mut (s0 : SInv G b0 H0) (S : SR G F0 H0 F H σ τ b fps) (hi : i < τ.length) (hv : σ[i]? = some (some v)) (ha : a ∈ fps i) (ft : Fit H0 F fps fp) (tf : ∀ c ∈ fp, ∃ o, H c = some o)
    (P : Addr → Prop) (hP : ∀ c, P c → (c ∈ fps i ∨ c ∈ fp) ∧ c ≠ a) (h3 : ∀ c ∈ fp3, (c ∈ fps i ∨ c ∈ fp) ∧ ¬ P c) (nd : fp3.Nodup)
    (r : RepV G (fun c => F c ∨ P c) (upd H a o) v u3 fp3) :
    ∃ fps', SR G F0 H0 (fun c => F c ∨ P c) (upd H a o) σ (τ.set i (some u3)) b fps' ∧ Lift G F (fun c => F c ∨ P c) H (upd H a o) := by
  have nFa : ¬ F a := ((S.own i).2 a ha).2
  have nva : ¬ vol G a := S.novol s0 ha
  have ea : H0 a = none := ((S.own i).2 a ha).1
  have old : ∀ c, (c ∈ fps i ∨ c ∈ fp) → H0 c = none ∧ ¬ F c ∧ ∃ u, H c = some u := fun c hc => by
    rcases hc with hc | hc
    · exact ⟨((S.own i).2 c hc).1, ((S.own i).2 c hc).2, S.there hc⟩
    · exact ⟨(ft.own c hc).1, (ft.own c hc).2, tf c hc⟩
  have Lk : Lift G F (fun c => F c ∨ P c) H (upd H a o) := ⟨fun _ => .inl, fun c w e h => by
    rw [upd_ne (fun z => by
      subst z
      rcases h with h | ⟨xs, rfl⟩
      · exact nFa h
      · -- a is a list or a dict, no tuple
        exact absurd e (S.notup ha))]
    exact e⟩
  refine ⟨fun j => if j = i then fp3 else fps j, ⟨⟨fun c w e hvc => by rw [upd_ne (fun z => by rw [z, ea] at e; cases e)]; exact S.stp.ext c w e hvc, fun c f => .inl (S.stp.mono c f), fun c f => ?_, fun c f => ?_, ?_⟩, by rw [List.length_set]; exact S.len, fun j w e => ?_, fun j h => ?_, fun j => ?_, fun j k c hj hk => ?_⟩, Lk⟩
  · rcases f with f | f
    · exact S.stp.new c f
    · exact .inr (old c (hP c f).1).1
  · rcases f with f | f
    · obtain ⟨h1, w, h2⟩ := S.stp.ok c f
      exact ⟨h1, w, by rw [upd_ne (fun z => nFa (by rw [← z]; exact f))]; exact h2⟩
    · obtain ⟨h1, h2, w, h3⟩ := old c (hP c f).1
      exact ⟨not_vol_of_none s0 h1, w, by rw [upd_ne (hP c f).2]; exact h3⟩
  · have si := S.stp.inv
    cases G with
    | none => trivial
    | some q =>
      obtain ⟨x, l⟩ := q
      obtain ⟨hne, ns, x1, x2, x3, g1, g2, g3⟩ := si
      exact ⟨hne, ns, x1, x2, x3, by rw [upd_ne (fun z => nva (.inl z.symm))]; exact g1, by rw [upd_ne (fun z => nva (.inr z.symm))]; exact g2, g3⟩
  · by_cases hj : i = j
    · subst hj
      rw [List.getElem?_set_self hi] at e
      cases e
      rw [if_pos rfl]
      exact ⟨v, hv, r⟩
    · rw [List.getElem?_set_ne hj] at e
      obtain ⟨z, h1, h2⟩ := S.vw j w e
      rw [if_neg (fun q => hj q.symm)]
      exact ⟨z, h1, h2.lift ⟨Lk, fun c w hc e => by rw [upd_ne (fun z => hj (S.dis i j a ha (by rw [← z]; exact hc)))]; exact e⟩⟩
  · split
    · rename_i hj
      subst hj
      exact absurd (List.getElem?_set_self hi) (h u3)
    · rename_i hj
      exact S.emp j fun w e => h w (by rw [List.getElem?_set_ne (fun q => hj q.symm)]; exact e)
  · split
    · exact ⟨nd, fun c hc => ⟨(old c (h3 c hc).1).1, fun f => f.elim (old c (h3 c hc).1).2.1 (h3 c hc).2⟩⟩
    · rename_i hj
      refine ⟨(S.own j).1, fun c hc => ⟨((S.own j).2 c hc).1, fun f => ?_⟩⟩
      rcases f with f | f
      · exact ((S.own j).2 c hc).2 f
      · rcases (hP c f).1 with q | q
        · exact hj (S.dis j i c hc q)
        · exact ft.dis c q j hc
  · have other : ∀ c, c ∈ fp3 → ∀ j, j ≠ i → c ∉ fps j := fun c hc j hj q => by
      rcases (h3 c hc).1 with z | z
      · exact hj (S.dis j i c q z)
      · exact ft.dis c z j q
    split at hj
    · rename_i q1
      split at hk
      · rename_i q2; rw [q1, q2]
      · rename_i q2; exact absurd hk (other c hj k q2)
    · rename_i q1
      split at hk
      · exact absurd hj (other c hk j q1)
      · exact S.dis j k c hj hk

theorem repV_lst {us : List T} {lv : Nat} (r : RepV G F H v ⟨.lst us, lv⟩ fp) : ∃ a vs, v = .ref a ∧ H a = some (.lst vs) := by
  match lv, r with
  | 0, r => obtain ⟨a, vs, h1, _, h2, _⟩ := repLstInv r.1; exact ⟨a, vs, h1, h2⟩
  | 1, r =>
    obtain ⟨a, rfl, rfl, h⟩ := r
    rcases h with ⟨vs, us, _, e, _⟩ | ⟨kvs, us, q, _, _⟩
    · exact ⟨a, vs, rfl, e⟩
    · cases q
  | 2, r =>
    have r : RepD G F H v (.lst us) fp := r
    cases r with
    | sh n _ => cases n
    | lst e _ => exact ⟨_, _, rfl, e⟩
  | 3, r =>
    obtain ⟨a, vs, h1, _, h2, _⟩ := repLstInv r.2.1
    exact ⟨a, vs, h1, h2⟩
  | n + 4, r => exact r.elim
/-- an owned list: its own address, what else it owns, its items -/
theorem lim_lt {l n m : Nat} (h : m < lim l n) : l < 2 ∧ m < n := by
  match l, h with
  | 0, h => exact ⟨by omega, h⟩
  | 1, h => exact ⟨by omega, h⟩
  | l + 2, h => exact absurd h (Nat.not_lt_zero _)
theorem repV_own {us : List T} {l : Nat} (h2 : l < 2) (r : RepV G F H v ⟨.lst us, l + 1⟩ fp) : ∃ a vs fp0, v = .ref a ∧ H a = some (.lst vs) ∧ fp = a :: fp0 ∧ ((l = 0 ∧ fp0 = [] ∧ Reps G F H vs us) ∨ (l = 1 ∧ RepDs G F H vs us fp0)) := by
  match l, r with
  | 0, r =>
    obtain ⟨a, rfl, rfl, h⟩ := r
    rcases h with ⟨vs, us, q, e, r⟩ | ⟨kvs, us, q, _, _⟩
    · cases q; exact ⟨a, vs, [], rfl, e, rfl, .inl ⟨rfl, rfl, r⟩⟩
    · cases q
  | 1, r =>
    have r1 : RepD G F H v (.lst us) fp := r
    cases r1 with
    | sh n _ => cases n
    | lst e r2 => exact ⟨_, _, _, rfl, e, rfl, .inr ⟨rfl, r2⟩⟩
  | n + 2, r => omega
theorem RepDs.app {vs ws : List V} {us ys : List T} {fp fp' : List Addr} : RepDs G F H vs us fp → RepDs G F H ws ys fp' → RepDs G F H (vs ++ ws) (us ++ ys) (fp ++ fp')
  | .nil, s => s
  | .cons r rs, s => by
    rw [List.append_assoc]
    exact .cons r (rs.app s)
theorem reps_old {G : Gb} {F : Fz} {H : Hp} {l : Nat} {vs : List V} {us : List T} {fp0 : List Addr} {F3 : Fz} (h : (l = 0 ∧ fp0 = [] ∧ Reps G F H vs us) ∨ (l = 1 ∧ RepDs G F H vs us fp0)) (hF : ∀ a, F a → F3 a) (hf : ∀ a ∈ fp0, F3 a) : Reps G F3 H vs us := by
  rcases h with ⟨_, _, r⟩ | ⟨_, r⟩
  · exact r.lift ⟨hF, fun _ _ e _ => e⟩
  · exact RepDs.share hF hf r
theorem tyV_lst {K : PySem.W.Frag} {vs : List V} (h : H a = some (.lst vs)) : tyV K "list" (.ref a) H := .inl ⟨rfl, _, SqL.of h⟩
theorem upd_lift {F : Fz} {o : HO} (nF : ¬ F a) (nt : ∀ xs, H a ≠ some (.tup xs)) : Lift G F F H (upd H a o) := lift_upd nF nt
/-- behind the evaluation the i-th name owns a list; what comes of it when its items are changed -/
theorem grow (s0 : SInv G b0 H0) {l : Nat} (hl2 : l < 2) (S2 : SR G F0 H0 F H σ τ b fps) {us zs : List T} (e : τ[i]? = some (some ⟨.lst us, l + 1⟩)) (hv : σ[i]? = some (some v)) (ft : Fit H0 F fps fp) (tf : ∀ c ∈ fp, ∃ o, H c = some o)
    {full : Bool} {newV : List V → List V} (hfull : full = true → ∀ vs fp0, RepDs G F H vs us fp0 → (∀ c ∈ fp0, c ∉ fp) → fp0.Nodup → ∃ fpn, RepDs G F H (newV vs) zs fpn ∧ (∀ c ∈ fpn, c ∈ fp0 ∨ c ∈ fp) ∧ fpn.Nodup)
    (hsh : ∀ (F3 : Fz) (vs : List V), (∀ c, F c → F3 c) → (∀ c ∈ fp, F3 c) → Reps G F3 H vs us → Reps G F3 H (newV vs) zs) :
    ∃ a vs, v = .ref a ∧ H a = some (.lst vs) ∧ vs.length = us.length ∧ a ∉ fp ∧ ∃ F3 fps3, SR G F0 H0 F3 (upd H a (.lst (newV vs))) σ (τ.set i (some ⟨.lst zs, if l = 1 ∧ full = true then 2 else 1⟩)) b fps3 ∧ Lift G F F3 H (upd H a (.lst (newV vs))) := by
  obtain ⟨v', hv', r⟩ := S2.vw i _ e
  rw [hv] at hv'
  cases hv'
  obtain ⟨a, vs, fp0, rfl, ha, hfp, hr⟩ := repV_own hl2 r
  have hi : i < τ.length := (List.getElem?_eq_some_iff.mp e).1
  have am : a ∈ fps i := by rw [hfp]; exact List.mem_cons_self
  have hlen : vs.length = us.length := by
    rcases hr with ⟨_, _, r⟩ | ⟨_, r⟩
    · exact r.length
    · exact (RepDs.share (F' := fun _ => True) (fun _ _ => trivial) (fun _ _ => trivial) r).length
  have nd := (S2.own i).1
  rw [hfp] at nd
  have na0 : a ∉ fp0 := (List.nodup_cons.mp nd).1
  have naf : a ∉ fp := fun k => ft.dis a k i am
  refine ⟨a, vs, rfl, ha, hlen, naf, ?_⟩
  by_cases hfl : l = 1 ∧ full = true
  · rw [if_pos hfl]
    rcases hr with ⟨hl, _⟩ | ⟨_, r⟩
    · omega
    · obtain ⟨fpn, rn, sn, ndn⟩ := hfull hfl.2 vs fp0 r (fun c hc k => ft.dis c k i (by rw [hfp]; exact List.mem_cons_of_mem _ hc)) (List.nodup_cons.mp nd).2
      have nan : a ∉ fpn := fun k => (sn a k).elim na0 naf
      obtain ⟨fps3, S3, L3⟩ := S2.mut s0 hi hv am ft tf (o := .lst (newV vs)) (u3 := ⟨.lst zs, 2⟩) (fp3 := a :: fpn) (fun _ => False) (fun _ k => k.elim) (fun c hc => ⟨by
          rcases List.mem_cons.mp hc with rfl | hc
          · exact .inl am
          · rcases sn c hc with hc | hc
            · exact .inl (by rw [hfp]; exact List.mem_cons_of_mem _ hc)
            · exact .inr hc, fun k => k⟩)
        (List.nodup_cons.mpr ⟨nan, ndn⟩)
        (by
          have Lu : LiftD G F (fun c => F c ∨ False) H (upd H a (.lst (newV vs))) fpn := ⟨⟨fun _ => .inl, (upd_lift (G := G) ((S2.own i).2 a am).2 (fun xs => S2.notup am)).ho⟩, fun c w hc e => by
            rw [upd_ne (fun z : c = a => nan (by rw [← z]; exact hc))]
            exact e⟩
          exact RepD.lst upd_same (rn.lift Lu))
      exact ⟨_, fps3, S3, L3⟩
  · rw [if_neg hfl]
    obtain ⟨fps3, S3, L3⟩ := S2.mut s0 hi hv am ft tf (o := .lst (newV vs)) (u3 := ⟨.lst zs, 1⟩) (fp3 := [a]) (fun c => c ∈ fp0 ∨ c ∈ fp) (fun c hc => by
        rcases hc with hc | hc
        · exact ⟨.inl (by rw [hfp]; exact List.mem_cons_of_mem _ hc), fun z => na0 (by rw [← z]; exact hc)⟩
        · exact ⟨.inr hc, fun z => naf (by rw [← z]; exact hc)⟩) (fun c hc => by
        have e : c = a := by simpa using hc
        subst e
        exact ⟨.inl am, fun k => k.elim na0 naf⟩) (by simp)
      ⟨a, rfl, rfl, .inl ⟨_, _, rfl, upd_same, (hsh _ _ (fun _ => .inl) (fun _ h => .inr (.inr h)) (reps_old hr (F3 := fun c => F c ∨ (c ∈ fp0 ∨ c ∈ fp)) (fun _ => .inl) (fun _ h => .inr (.inl h)))).lift
        (upd_lift (fun f => f.elim ((S2.own i).2 a am).2 fun k => k.elim na0 naf) (fun xs => S2.notup am))⟩⟩
    exact ⟨_, fps3, S3, L3⟩
theorem lev_eq {l n : Nat} : (if l = 1 ∧ n = 2 then 2 else 1) = (if l = 1 ∧ Nat.beq n 2 = true then 2 else 1) := by
  by_cases q : n = 2
  · simp [q]
  · have : ¬ Nat.beq n 2 = true := fun z => q (Nat.eq_of_beq_eq_true z)
    simp [q, this]
theorem deep_of (q : Nat.beq u.lv 2 = true) (r : RepV G F H v u fp) : RepD G F H v u.t fp := by
  have e2 : u.lv = 2 := Nat.eq_of_beq_eq_true q
  obtain ⟨t, lv⟩ := u
  dsimp only at e2
  subst e2
  exact r
theorem share_to {F3 : Fz} (h1 : ∀ c, F c → F3 c) (h2 : ∀ c ∈ fp, F3 c) (r : RepV G F H v u fp) : Rep G F3 H v u.t := r.share.lift ⟨fun c f => by
  rcases f with f | f
  · exact h1 c f
  · exact h2 c f, fun _ _ e _ => e⟩
theorem nodup_app {fp fp' : List Addr} (h1 : fp.Nodup) (h2 : fp'.Nodup) (h : ∀ c ∈ fp, c ∉ fp') : (fp ++ fp').Nodup := List.nodup_append.mpr ⟨h1, h2, fun a ha c hc e => h a ha (by rw [e]; exact hc)⟩
theorem lstAt_get (h : lstAt τ i = true) : ∃ us l, τ[i]? = some (some ⟨.lst us, l⟩) := by
  unfold lstAt at h
  split at h
  · exact ⟨_, _, ‹_›⟩
  · cases h
theorem ss_app {x : Str} (hN : X.N[i]? = some x) (hvi : Vis X.env.scope x) (hd : (x == ("__debug__" : Str)) = false) (hcd : (x == ("__classdict__" : Str)) = false) (he : SE X rp call W e A) (hst : starEach [e] X.env = (false, eval e X.env) :: starEach [] X.env)
    (hfew : ((backTo cpos (starEach [e] X.env)).all (fun x => !x.1) && (backToKw cpos (keywordEach [] X.env)).all (fun x => x.1.isSome) && decide ([e].length + ([] : List Keyword).length + (if ([] : List Keyword).isEmpty then 0 else 1) < 30)) = true) (hline : (apos.endLine == cpos.line) = true) :
    SS X rp call W (.Expr (.Call (.Attribute (.Name x p) "append" apos) [e] [] cpos) pos) (.app i A fz) :=
  PS.imp (ps_expr (pe_bm PySem.F.plainAttrs_list PySem.F.slot_list_append PySem.F.type_list_append mt_append (pe_var hN hvi hd hcd) (pa_cons he pa_nil hst) rfl hfew hline hst rfl) rfl) fun D σ H ⟨G, F0, H0, b0, F, τ, b, fps, s0, f0, S, h⟩ => by
    obtain ⟨hl, h⟩ := sat_iteB (show Sat _ _ (if lstAt τ i = true then _ else R.stuck) b from h)
    obtain ⟨us0, l0, e0⟩ := lstAt_get hl
    obtain ⟨v, hv, r0⟩ := S.vw i _ e0
    obtain ⟨a0, vs0, rfl, ha0⟩ := repV_lst r0
    refine ⟨_, hv, tyV_lst ha0, ?_⟩
    refine ⟨G, _, hide fz τ, b, S.preH s0 fz, ((sat_bind _ _).1 h).imp (fun u b1 hu y H1 F1 fp st r o => ?_) fun _ _ _ z => z.see s0 S⟩
    obtain ⟨F2, fps2, S2, L, r2, ft, _⟩ := S.afterV s0 st r o
    dsimp only at hu
    split at hu
    · rename_i us l e1
      obtain ⟨hlen, hu⟩ := sat_iteB hu
      obtain ⟨hl2, hlen⟩ := lim_lt (Nat.le_of_ble_eq_true hlen)
      obtain ⟨a, vs, ea, ha, hvl, _, F3, fps3, S3, L3⟩ := grow s0 hl2 S2 (zs := us ++ [u.t]) (newV := fun vs => vs ++ [y]) (full := Nat.beq u.lv 2) e1 hv ft r2.there (fun q vs fp0 rd dis nd => by
          have rr := rd.app (RepDs.cons (deep_of q r2) .nil)
          rw [List.append_nil] at rr
          exact ⟨_, rr, fun c hc => List.mem_append.mp hc, nodup_app nd ft.nd dis⟩) (fun F3 vs h1 h2 q => q.append (.cons (share_to h1 h2 r2) .nil))
      cases ea
      refine ⟨_, _, _, rfl, rfl, ha, by rw [hvl, line_eq]; exact hlen, ?_⟩
      have hu : SQ G F0 H0 F H D (.nx ((after fz u τ).set i (some ⟨.lst (us ++ [u.t]), if l = 1 ∧ u.lv = 2 then 2 else 1⟩))) b1 := hu
      rw [lev_eq] at hu
      exact hu _ _ _ _ S3 (L.trans L3)
    · exact hu.elim
theorem ss_ext {x : Str} (hN : X.N[i]? = some x) (hvi : Vis X.env.scope x) (hd : (x == ("__debug__" : Str)) = false) (hcd : (x == ("__classdict__" : Str)) = false) (he : SE X rp call W e A) (hst : starEach [e] X.env = (false, eval e X.env) :: starEach [] X.env)
    (hfew : ((backTo cpos (starEach [e] X.env)).all (fun x => !x.1) && (backToKw cpos (keywordEach [] X.env)).all (fun x => x.1.isSome) && decide ([e].length + ([] : List Keyword).length + (if ([] : List Keyword).isEmpty then 0 else 1) < 30)) = true) (hline : (apos.endLine == cpos.line) = true) :
    SS X rp call W (.Expr (.Call (.Attribute (.Name x p) "extend" apos) [e] [] cpos) pos) (.ext i A fz) :=
  PS.imp (ps_expr (pe_bm PySem.F.plainAttrs_list PySem.F.slot_list_extend PySem.F.type_list_extend mt_extend (pe_var hN hvi hd hcd) (pa_cons he pa_nil hst) rfl hfew hline hst rfl) rfl) fun D σ H ⟨G, F0, H0, b0, F, τ, b, fps, s0, f0, S, h⟩ => by
    obtain ⟨hl, h⟩ := sat_iteB (show Sat _ _ (if lstAt τ i = true then _ else R.stuck) b from h)
    obtain ⟨us0, l0, e0⟩ := lstAt_get hl
    obtain ⟨v, hv, r0⟩ := S.vw i _ e0
    obtain ⟨a0, vs0, rfl, ha0⟩ := repV_lst r0
    refine ⟨_, hv, tyV_lst ha0, ?_⟩
    refine ⟨G, _, hide fz τ, b, S.preH s0 fz, ((sat_bind _ _).1 h).imp (fun u b1 hu y H1 F1 fp st r o => ?_) fun _ _ _ z => z.see s0 S⟩
    obtain ⟨F2, fps2, S2, L, r2, ft, _⟩ := S.afterV s0 st r o
    dsimp only at hu
    split at hu
    · rename_i us l ys e1 ey
      obtain ⟨t, lv⟩ := u
      dsimp only at ey
      subst ey
      obtain ⟨hlen, hu⟩ := sat_iteB hu
      obtain ⟨hl2, hlen⟩ := lim_lt (Nat.le_of_ble_eq_true hlen)
      obtain ⟨c, ws, rfl, hc⟩ := repV_lst r2
      have parts : (lv = 2 → ∃ fpb, RepDs G F2 H1 ws ys fpb ∧ (∀ d ∈ fpb, d ∈ fp) ∧ fpb.Nodup) ∧ ∀ F3 : Fz, (∀ d, F2 d → F3 d) → (∀ d ∈ fp, F3 d) → Reps G F3 H1 ws ys := by
        refine ⟨fun q => ?_, fun F3 h1 h2 => ?_⟩
        · subst q
          have r3 : RepD G F2 H1 (.ref c) (.lst ys) fp := r2
          cases r3 with
          | sh n _ => cases n
          | @lst _ vs' _ fp' e rr =>
            rw [hc] at e
            cases e
            exact ⟨fp', rr, fun d hd => List.mem_cons_of_mem _ hd, (List.nodup_cons.mp ft.nd).2⟩
        · obtain ⟨c2, ws2, ec, _, hc2, rr⟩ := repLstInv (share_to h1 h2 r2)
          cases ec
          rw [hc] at hc2
          cases hc2
          exact rr
      obtain ⟨a, vs, ea, ha, hvl, naf, F3, fps3, S3, L3⟩ := grow s0 hl2 S2 (zs := us ++ ys) (newV := fun vs => vs ++ ws) (full := Nat.beq lv 2) e1 hv ft r2.there (fun q vs fp0 rd dis nd => by
          obtain ⟨fpb, rb, sb, ndb⟩ := parts.1 (Nat.eq_of_beq_eq_true q)
          exact ⟨_, rd.app rb, fun c hc => (List.mem_append.mp hc).imp id (sb c), nodup_app nd ndb fun c hc k => dis c hc (sb c k)⟩) (fun F3 vs h1 h2 q => q.append (parts.2 F3 h1 h2))
      cases ea
      have hwl : ws.length = ys.length := (parts.2 (fun _ => True) (fun _ _ => trivial) (fun _ _ => trivial)).length
      refine ⟨_, _, _, _, rfl, rfl, ha, hc, by rw [hvl, hwl, line_eq]; exact Nat.le_of_lt_succ hlen, ?_⟩
      have hu : SQ G F0 H0 F H D (.nx ((after fz ⟨.lst ys, lv⟩ τ).set i (some ⟨.lst (us ++ ys), if l = 1 ∧ lv = 2 then 2 else 1⟩))) b1 := hu
      rw [lev_eq] at hu
      exact hu _ _ _ _ S3 (L.trans L3)
    · exact hu.elim
end
end TM

set_option Elab.async false
set_option linter.all false
set_option maxRecDepth 100000
set_option maxHeartbeats 4000000
namespace TM
open PySem PySem.Spec L2
open PyProof.Rows (envOfC)

/-! ### defs that are told that no repr is under way -/
structure FnG (P : Program) (w : World) (K : PySem.W.Frag) (mg : Str → Option Value) (base : Heap) (k : Nat) (f : Addr) (fd : FuncData) (ps : List Str) (sp : Sp) : Prop where
  len : ∀ vs H Q E, sp vs H Q E → vs.length = ps.length
  run : ∀ (A : Around) (outer : List PySem.Env) (s : Shared) (H : Hp) (args : Args) (us : List Value) (vs : List V) (Q : VK) (E : XK), Room k A → A.guards = some [] → Env0 P w K mg base A outer s H → BindsTo s fd args (ps.zip us) → Vals vs us → sp vs H Q E →
    codeAny (model P w) A (.call (.ref f) args) (CR CX0 outer P w H s Q E) s
theorem guards_deeper {A : Around} {env : PySem.Env} : (A.deeper env).guards = A.guards := by
  first | rfl | simp [Around.deeper]
theorem FunD.okG {P : Program} {w : World} {K : PySem.W.Frag} {mg : Str → Option Value} {base : Heap} {x qual : Str} {params : Arguments} {body : List Stmt} {scope : Scope} {dvs : List V} {kws : List (Str × V)} {f : Addr} {fd : FuncData} {N ps : List Str} {k : Nat} {sp : Sp}
    (F : FunD K x qual params body scope dvs kws f fd) (S : FnScope N ps scope) (len : ∀ vs H Q E, sp vs H Q E → vs.length = ps.length)
    (hbody : ∀ (cdv : Value) (A : Around) (outer : List PySem.Env) (s : Shared) (H : Hp) (vs : List V) (Q : VK) (E : XK), Room k (A.deeper (envOfC qual scope s.heap.objs.size f cdv)) → (A.deeper (envOfC qual scope s.heap.objs.size f cdv)).guards = some [] → sp vs H Q E →
      ∃ t, PSs (cxOf CX0 P w K mg base N qual scope f cdv A outer s H E) body t ∧ t { nx := fun _ H' => Q .non H', rt := Q } (L2.start N vs) H) : FnG P w K mg base (k + 1) f fd ps sp := by
  obtain ⟨oc, od, dV, kV, doc, pm, an, cdv, ct, osl, rfl, lk, hcd, _, _⟩ := F.ex
  refine ⟨len, fun A outer s H args us vs Q E hr hg e0 hb r hsp => ?_⟩
  have hl := len _ _ _ _ hsp
  have KX : K.In s.heap := e0.mod.kin.keeps fun b o e => (e0.bs b o e).1
  have lim : s.heap.NoLimit := e0.mod.nolimit.keeps fun b o e => (e0.bs b o e).1
  have hkind : ∀ y ∈ ps.zip us, scope.names.lookup y.1 = some .local ∨ (scope.names.lookup y.1 = some .cell ∧ ((cellsFrom (s.heap.objs.size + 1) scope.names []).lookup y.1).isSome = true) := fun ⟨n, v⟩ hy =>
    (S.par n (List.of_mem_zip hy).1).imp id fun q => ⟨q, PySem.W.cellsFrom_some _ _ _ (.inl q)⟩
  refine codeAny_call_function hr.depth (KX _ _ lk) rfl S.co S.gen rfl (PySem.W.codeRec_of KX hcd) (hb _ _ _ _ ?_)
  refine wpAny_newFunctionEnv_cells S.kind hkind fun env he s1 x => ?_
  subst he
  refine ⟨lim.keeps x.toInCall.keep, codeAny_func ?_⟩
  obtain ⟨t, ht, hq⟩ := hbody cdv A outer s H vs Q E (hr.deeper _) (guards_deeper.trans hg) hsp
  have I : L2.Inv (cxOf CX0 P w K mg base N qual scope f cdv A outer s H E) [] (L2.start N vs) H s1 := inv_start S hr.hd e0 hl r x
  refine wpAny_mono (ht.run [] s1 (L2.start N vs) H _ I hq) (fun fl s' hs => ?_) fun e s' hs => hs
  cases fl with
  | ret u =>
    obtain ⟨v, σ', H', J, rv, q⟩ := hs
    exact ⟨v, H', J.os, J.bare, J.base, J.hok, rv, q⟩
  | next =>
    obtain ⟨σ', H', J, q⟩ := hs
    exact ⟨.non, H', J.os, J.bare, J.base, J.hok, rfl, q⟩
  | brk => exact False.elim (hs.elim fun _ h => h.elim fun _ h => h.2)
  | cont => exact False.elim (hs.elim fun _ h => h.elim fun _ h => h.2)
section
variable {X : Cx} {k : Nat} {f : Addr} {fd : FuncData} {ps : List Str} {sp : Sp} {E : XK} {x : Str} {p pos : Pos} {e : Expr} {es : List Expr} {t : TA}
theorem endG {pins : List (Addr × Obj)} {σ : St} {H : Hp} {s : Shared} {Q : VK} {args : Args} {us : List Value} {vs : List V} (F : FnG X.prog X.w X.K X.mg X.base k f fd ps sp) (hr : Room k X.A) (hg : X.A.guards = some [])
    (I : L2.Inv X pins σ H s) (hb : BindsTo s fd args (ps.zip us)) (r : Vals vs us) (h : sp vs H Q E) : codeAny (model X.prog X.w) X.A (.call (.ref f) args) (fun r s' => match r with | .ok (.ret u) => EP X pins σ Q u s' | .ok _ => False | .error e => X.xe e s') s := by
  refine codeAny_mono (F.run X.A X.stack s H args us vs Q E hr hg I.env0 hb r h) fun r s' hq => ?_
  cases r with
  | error e => exact False.elim hq
  | ok fl =>
    cases fl with
    | ret u => exact I.after hq
    | next => exact False.elim hq
    | brk => exact False.elim hq
    | cont => exact False.elim hq
theorem run_fnG {pins : List (Addr × Obj)} {σ : St} {H : Hp} {s : Shared} {Q : VK} {us : List Value} {vs : List V} (F : FnG X.prog X.w X.K X.mg X.base k f fd ps sp) (hr : Room k X.A) (hg : X.A.guards = some []) (hb : Binds X.K fd ps [])
    (I : L2.Inv X pins σ H s) (r : Vals vs us) (h : sp vs H Q E) : wpAny (model X.prog X.w) X.A (call (.ref f) us) (EP X pins σ Q) X.xe s := by
  have hl : (us ++ []).length = ps.length := by rw [List.append_nil, ← r.length]; exact F.len _ _ _ _ h
  have b := hb s us I.kIn hl
  rw [List.append_nil] at b
  refine wpAny_call (codeAny_mono (endG F hr hg I b r h) fun r s' hq => ?_)
  cases r with
  | error e => exact hq
  | ok fl => cases fl <;> exact hq
theorem run_fnkG {ks : List Str} {g : List Value → List Value → List Value} {gV : List V → List V → List V} {pins : List (Addr × Obj)} {σ : St} {H : Hp} {s : Shared} {Q : VK} {us ws : List Value} {vs zs : List V} (F : FnG X.prog X.w X.K X.mg X.base k f fd ps sp) (hr : Room k X.A) (hg : X.A.guards = some []) (hb : KBinds X.K fd ps ks g gV)
    (I : L2.Inv X pins σ H s) (r : Vals vs us) (rz : Vals zs ws) (h : sp (gV vs zs) H Q E) : wpAny (model X.prog X.w) X.A (call (.ref f) us (ks.zip ws)) (EP X pins σ Q) X.xe s := by
  have r2 := hb.rel r rz
  have hl : (g us ws).length = ps.length := by rw [← r2.length]; exact F.len _ _ _ _ h
  refine wpAny_call (codeAny_mono (endG F hr hg I (hb.to s us ws I.kIn hl) r2 h) fun r s' hq => ?_)
  cases r with
  | error e => exact hq
  | ok fl => cases fl <;> exact hq
theorem pe_callG (F : FnG X.prog X.w X.K X.mg X.base k f fd ps sp) (hr : Room k X.A) (hgd : X.A.guards = some []) (hg : Gl X x) (hm : X.mg x = some (.ref f)) (hk : PySem.W.keepIn X.K (.ref f) = true) (hb : Binds X.K fd ps [])
    (ha : PA X (e :: es) t) (hdb : (x == ("__debug__" : Str)) = false) (he : starEach (e :: es) X.env = (false, eval e X.env) :: starEach es X.env) (hpl : (backTo pos (starEach es X.env)).any (·.1) = false) :
    PE X (.Call (.Name x p) (e :: es) [] pos) (tCall sp [] E t) := by
  refine ⟨fun pins s σ H Q I h => ?_⟩
  refine wpAny_Call_Name_kw (ld_glob I hg hm ?_ hdb)
  refine PySem.W.callWith_K (h₀ := X.base) I.ok.mod.kin hk (thn (ha.run pos pins s σ H _ I h) fun us s1 ⟨vs, H1, I1, r, q⟩ => ⟨I1.kIn, ?_⟩) he hpl
  exact run_fnG F hr hgd hb I1 r (by have q : sp (vs ++ []) H1 Q E := q; rw [List.append_nil] at q; exact q)
theorem pe_call0G (F : FnG X.prog X.w X.K X.mg X.base k f fd ps sp) (hr : Room k X.A) (hgd : X.A.guards = some []) (hg : Gl X x) (hm : X.mg x = some (.ref f)) (hk : PySem.W.keepIn X.K (.ref f) = true) (hb : Binds X.K fd ps [])
    (hdb : (x == ("__debug__" : Str)) = false) : PE X (.Call (.Name x p) [] [] pos) (tCall sp [] E tNil) :=
  ⟨fun pins s σ H Q I h => wpAny_Call_Name_kw (ld_glob I hg hm (PySem.W.callWith_K0 I.kIn hk (run_fnG (us := []) F hr hgd hb I .nil h)) hdb)⟩
theorem pe_callKG {ks : List Str} {kws : List Keyword} {tk : TA} {g : List Value → List Value → List Value} {gV : List V → List V → List V} (F : FnG X.prog X.w X.K X.mg X.base k f fd ps sp) (hr : Room k X.A) (hgd : X.A.guards = some []) (hg : Gl X x) (hm : X.mg x = some (.ref f)) (hk : PySem.W.keepIn X.K (.ref f) = true) (hb : KBinds X.K fd ps ks g gV)
    (ha : PA X (e :: es) t) (hkw : PK X kws tk) (hall : (backToKw pos (keywordEach kws X.env)).all (·.1.isSome) = true) (hks : (backToKw pos (keywordEach kws X.env)).filterMap (·.1) = ks)
    (hdb : (x == ("__debug__" : Str)) = false) (he : starEach (e :: es) X.env = (false, eval e X.env) :: starEach es X.env)
    (hpl : ((backTo pos (starEach (e :: es) X.env)).any (·.1) || (backToKw pos (keywordEach kws X.env)).any (·.1.isNone)) = false) :
    PE X (.Call (.Name x p) (e :: es) kws pos) (tCallK sp gV E t tk) := by
  refine ⟨fun pins s σ H Q I h => ?_⟩
  refine wpAny_Call_Name_kw (ld_glob I hg hm ?_ hdb)
  refine PySem.W.callWith_KW (h₀ := X.base) I.ok.mod.kin hk hall (thn (ha.run pos pins s σ H _ I h) fun us s1 ⟨vs, H1, I1, r, q⟩ => ?_) hpl he
  refine thn (hkw.run pos pins s1 σ H1 _ I1 q) fun ws s2 ⟨zs, H2, I2, rz, q2⟩ => ⟨I2.kIn, ?_⟩
  rw [hks]
  exact run_fnkG F hr hgd hb I2 r rz q2
end
end TM

set_option Elab.async false
set_option linter.all false
set_option maxRecDepth 100000
set_option maxHeartbeats 4000000
namespace TM
open PySem PySem.Spec L2 PyProof.Rows

/-! ### the law's own call, by a promise that is told that no repr is under way -/
theorem law_callG {P : Program} {w : World} {K : PySem.W.Frag} {mg mb : Str → Option Value} {k : Nat} {fa a : Addr} {fd : FuncData} {x : Str} {sp : Sp} {s1 : Shared} {vs : List Value} {ns : List Int}
    (KX : K.In s1.heap) (hns : s1.heap.Ns mainGlobals mg) (hb : s1.heap.Ns builtinsNs mb) (hbb : ∀ x : Str, x ≠ "__name__" → mb x = bootBuiltins x) (hlim : s1.heap.NoLimit) (hg : s1.gens = #[])
    (ha : s1.heap.get? a = some { cls := .type "list", data := .seq vs.toArray }) (hi : IntsAre vs ns) (hl : ns.length ≤ sizeLine) (hr : Room k callerA)
    (F : ∀ base : Heap, K.In base → base.Ns mainGlobals mg → FnG P w K mg base k fa fd [x] sp) (hbind : ∀ (s : Shared) (u : Value), BindsTo s fd ⟨[u], []⟩ [(x, u)])
    (hsp : ∀ H : Hp, Only H → SqL K H a (ns.map V.int) → sp [.ref a] H (fun v _ => v = .bl true) fun _ _ _ => False) :
    codeAny (model P w) callerA (.call (.ref fa) ⟨[.ref a], []⟩) (fun r s' => r = .ok (.ret (.bool true)) ∧ OldK s1.heap s'.heap ∧ s'.os = s1.os ∧ AllBare s'.gens) s1 := by
  have rv := vals_ints hi
  have lenV := hi.length
  have core : ∀ H : Hp, Only H → SqL K H a (ns.map V.int) → HOk P w H s1.heap → (∀ b, H b ≠ none → b = a) → (H a ≠ none → K.lookup a = none) →
      codeAny (model P w) callerA (.call (.ref fa) ⟨[.ref a], []⟩) (fun r s' => r = .ok (.ret (.bool true)) ∧ OldK s1.heap s'.heap ∧ s'.os = s1.os ∧ AllBare s'.gens) s1 := by
    intro H hO hS hok hA hK
    have off : ∀ {b : Addr}, (∀ u, H b = some u → b = a → False) → H b = none := fun {b} h => by
      cases q : H b with
      | none => rfl
      | some u => exact (h u q (hA b (by rw [q]; simp))).elim
    have noA : ∀ {b : Addr} {o : Obj} {es : Array DictEntry} {ep : Nat}, s1.heap.get? b = some o → o.data = .dict es ep → H b = none := fun {b o es ep} e d => off fun u q e' => by
      subst e'
      rw [ha] at e; cases e
      have d' : Data.seq vs.toArray _ = Data.dict es ep := d
      cases d'
    have nsK : ∀ {b : Addr} {m : Str → Option Value}, s1.heap.Ns b m → (hidT s1.heap H).Ns b m := fun ⟨o, es, ep, e, d, r⟩ => ⟨o, es, ep, hidT_get e (noA e d), d, r⟩
    have hKb : K.In (hidT s1.heap H) := fun b o e => hidT_get (KX b o e) (off fun u q e' => by
      subst e'
      rw [hK (by rw [q]; simp)] at e; cases e)
    have hM : Mod K mg (hidT s1.heap H) := ⟨hKb, nsK hns, ⟨mb, nsK hb, hbb⟩, let ⟨mc, h1, h2⟩ := hlim; ⟨mc, nsK h1, h2⟩⟩
    have e0 : Env0 P w K mg (hidT s1.heap H) callerA [] s1 H := ⟨rfl, hM, fun b o e => of_hidT e, Nat.le_of_eq (hidT_size _ _), trivial, fun b hb => absurd (show b ∈ ([] : List Addr) from hb) (by simp), hok, .of_eq hg⟩
    refine codeAny_mono ((F _ hKb (nsK hns)).run callerA [] s1 H ⟨[.ref a], []⟩ [.ref a] [.ref a] _ _ hr rfl e0 (hbind s1 (.ref a)) (.cons rfl .nil) (hsp H hO hS)) fun r s' h => ?_
    cases r with
    | error e => exact False.elim h
    | ok fl =>
      cases fl with
      | next => exact False.elim h
      | brk => exact False.elim h
      | cont => exact False.elim h
      | ret u =>
        obtain ⟨v, H', os, bare, un, hok', r', q⟩ := h
        have q' : v = .bl true := q
        subst q'
        obtain rfl : u = Value.bool true := r'
        refine ⟨rfl, OldK.of_keep fun b o e => ?_, os, bare⟩
        cases q : H b with
        | none => exact un.keep b o e q (by intro z; exact absurd (show b ∈ ([] : List Addr) from z) (by simp)) (by simp)
        | some u =>
          rcases hO b with z | ⟨ob, xs, z⟩
          · rw [q] at z; cases z
          · obtain ⟨e1, _⟩ := hok b _ z
            obtain ⟨e2, _⟩ := hok' b _ (un.frzs b ob _ z)
            rw [e] at e1; cases e1
            exact e2
  cases hk : K.lookup a with
  | some o =>
    have e := KX a o hk
    rw [ha] at e
    cases e
    exact core (fun _ => none) (fun _ => .inl rfl) (.inr ⟨_, vs.toArray, _, hk, rfl, rfl, rfl, by rw [List.size_toArray, lenV]; exact hl, by simpa using rv⟩) (fun b u z => nomatch (show (none : Option HO) = some u from z)) (fun b z => absurd rfl z) fun z => absurd rfl z
  | none =>
    refine core (fun b => if b = a then some (.frz { cls := .type "list", data := .seq vs.toArray } (.lst (ns.map V.int))) else none) (fun b => ?_) (.inl (.inr ⟨{ cls := .type "list", data := .seq vs.toArray }, if_pos rfl⟩)) (fun b u z => ?_) (fun b z => ?_) fun _ => hk
    · by_cases hb : b = a
      · exact .inr ⟨_, _, if_pos hb⟩
      · exact .inl (if_neg hb)
    · by_cases hb : b = a
      · have z' := (if_pos hb).symm.trans z
        cases z'
        subst hb
        exact ⟨ha, by rw [List.length_map]; exact hl, vs, _, rv, ha⟩
      · have z' := (if_neg hb).symm.trans z
        cases z'
    · by_cases hb : b = a
      · exact hb
      · exact absurd (if_neg hb) z
theorem walkG {l : PySem.W.OpenLaw} {n k : Nat} {q : Program} {loose : List Str} {XP : (Str → Option Value) → Heap → Prop} {YP : World → Heap → Prop} {d : DefRec} {x : Str}
    (hn : l.most = some n) (hn2 : n ≤ sizeLine) (hdf : d.params.defaults = []) (hr : Room k callerA)
    (F : ∀ (w : World) (mg : Str → Option Value) (fa : Addr) (h : Heap), YP w h → h.Ns mainGlobals mg → mg d.name = some (.ref fa) →
      ∃ (K : PySem.W.Frag) (fd : FuncData) (sp : Sp), K.In h ∧ (∀ (s : Shared) (u : Value), BindsTo s fd ⟨[u], []⟩ [(x, u)]) ∧
        (∀ (H : Hp) (a : Addr) (ns : List Int), ns.length ≤ n → Only H → SqL K H a (ns.map V.int) → sp [.ref a] H (fun v _ => v = .bl true) fun _ _ _ => False) ∧
        ∀ base : Heap, K.In base → base.Ns mainGlobals mg → FnG l.prog w K mg base k fa fd [x] sp) :
    PySem.W.WalkO q loose XP YP l.row.toRowW d [] (fun f vs => PySem.call f vs) := by
  refine Att.attach_call hn hdf fun w s₀ s₁ mg mb fa o pm cd doc a vs ns G Y ho hd hcd hmg hobj hints hlen hg => ?_
  obtain ⟨K, fd, sp, KX, hb, hsp, hF⟩ := F w mg fa _ Y G.T.g hmg
  exact law_callG KX G.T.g G.T.b G.T.builtins G.T.nolimit hg hobj hints (Nat.le_trans hlen hn2) hr hF hb fun H hO hS => hsp H a ns hlen hO hS
end TM

set_option Elab.async false
set_option linter.all false
set_option maxRecDepth 100000
set_option maxHeartbeats 4000000
namespace TM
open PySem PySem.Spec L2

/-- a def of the program: its name, parameters, what it does; how it is called with keywords: places, names, the order -/
structure Ent where
  nm : Str
  ps : List Str
  fd : Fd
  kts : List (Nat × List Str × List Nat)
abbrev fds (P : List Ent) : List Fd := P.map (·.fd)
/-- what a def promises -/
def spT (rp : T → Str) (P : List Ent) (k f n : Nat) : Sp := fun vs H Q _ => vs.length = n ∧ ∃ G F us b, FOk G F H ∧ SInv G b H ∧ Reps G F H vs us ∧ Sat (EQ G F H Q) (ES G F H W0) (run rp (fds P) k f us) b
def kgV (np : Nat) (ks : List Str) (pm : List Nat) (vs zs : List V) : List V := if vs.length = np ∧ zs.length = ks.length then pm.map fun i => (vs ++ zs).getD i .non else []
def kgU (np : Nat) (ks : List Str) (pm : List Nat) (us ws : List Value) : List Value := if us.length = np ∧ ws.length = ks.length then pm.map fun i => (us ++ ws).getD i .none else []
structure CallOk (X : Cx) (rp : T → Str) (P : List Ent) (k f : Nat) (en : Ent) : Prop where
  ex : ∃ adr fdt, FnG X.prog X.w X.K X.mg X.base k adr fdt en.ps (spT rp P k f en.ps.length) ∧ X.mg en.nm = some (.ref adr) ∧ PySem.W.keepIn X.K (.ref adr) = true ∧ Binds X.K fdt en.ps [] ∧
    ∀ kt ∈ en.kts, KBinds X.K fdt en.ps kt.2.1 (kgU kt.1 kt.2.1 kt.2.2) (kgV kt.1 kt.2.1 kt.2.2)

def wfE (en : Ent) : Bool := match en.fd with
  | .fn np _ _ => Nat.beq np en.ps.length
  | .draw => Nat.beq en.ps.length 2
section
variable {X : Cx} {rp : T → Str} {P : List Ent} {k : Nat} {G : Gb} {F : Fz} {H : Hp} {b : Nat} {σ : St} {τ : TM.Env} {Q : VK} {pos p p2 apos tpos : Pos} {e ea eb ec : Expr} {es elts : List Expr} {A B C : E} {As Bs : Es} {f : Nat} {en : Ent} {kws : List Keyword}
theorem fds_get (h : P[f]? = some en) : (fds P)[f]? = some en.fd := by
  show (P.map (·.fd))[f]? = _
  rw [List.getElem?_map, h]; rfl
theorem run_len {Qa : Val → Nat → Prop} {E : Nat → T → Nat → Prop} {us : List T} (hP : P[f]? = some en) (hw : wfE en = true) (h : Sat Qa E (run rp (fds P) k f us) b) : us.length = en.ps.length := by
  cases k with
  | zero => exact h.elim
  | succ k =>
    unfold run at h
    rw [fds_get hP] at h
    unfold wfE at hw
    cases ef : en.fd with
    | fn np ns bd =>
      rw [ef] at h hw
      have hw := Nat.eq_of_beq_eq_true hw
      dsimp only at h
      split at h
      · rename_i q; rw [q, hw]
      · exact h.elim
    | draw =>
      rw [ef] at h hw
      have hw := Nat.eq_of_beq_eq_true hw
      dsimp only at h
      split at h
      · rw [hw]; rfl
      · exact h.elim
theorem sp_of (hP : P[f]? = some en) (hw : wfE en = true) {W : XW} {us : List T} {vs : List V} {E : XK} (ok : FOk G F H) (s : SInv G b H) (r : Reps G F H vs us) (h : Sat (EQ G F H Q) (ES G F H W0) (run rp (fds P) k f us) b) : spT rp P k f en.ps.length vs H Q E :=
  ⟨by rw [r.length]; exact run_len hP hw h, G, F, us, b, ok, s, r, h⟩
theorem se_call (hr : Room k X.A) (hgd : X.A.guards = some []) (hP : P[f]? = some en) (hw : wfE en = true) (hc : CallOk X rp P k f en) (hg : Gl X en.nm) (ha : SA X rp (run rp (fds P) k) W0 (e :: es) As) (hdb : (en.nm == ("__debug__" : Str)) = false) (he : starEach (e :: es) X.env = (false, eval e X.env) :: starEach es X.env) (hpl : (backTo pos (starEach es X.env)).any (·.1) = false) :
    SE X rp (run rp (fds P) k) W0 (.Call (.Name en.nm p) (e :: es) [] pos) (.call f As) := by
  obtain ⟨adr, fdt, F, hm, hk, hb, _⟩ := hc.ex
  refine PE.imp (pe_callG (E := fun _ _ _ => False) F hr hgd hg hm hk hb ha hdb he hpl) fun σ H Q ⟨G, F, τ, b, pre, h⟩ => ?_
  refine many pre h (fun _ _ _ z => z) fun us vs F1 H1 b1 st r hx => ?_
  rw [List.append_nil]
  exact sp_of hP hw (W := W0) st.ok st.inv r (sat_next pre.inv st hx)
theorem se_call0 (hr : Room k X.A) (hgd : X.A.guards = some []) (hP : P[f]? = some en) (hw : wfE en = true) (hc : CallOk X rp P k f en) (hg : Gl X en.nm) (hdb : (en.nm == ("__debug__" : Str)) = false) :
    SE X rp (run rp (fds P) k) W0 (.Call (.Name en.nm p) [] [] pos) (.call f .nil) := by
  obtain ⟨adr, fdt, F, hm, hk, hb, _⟩ := hc.ex
  refine PE.imp (pe_call0G (E := fun _ _ _ => False) F hr hgd hg hm hk hb hdb) fun σ H Q ⟨G, F, τ, b, pre, h⟩ => ?_
  exact sp_of (E := fun _ _ _ => False) hP hw (W := W0) pre.ok pre.inv .nil h
/-- f(k = v, ..) -/
theorem pe_callK0 {fd : FuncData} {ps ks : List Str} {sp : Sp} {E : XK} {x : Str} {tk : TA} {g : List Value → List Value → List Value} {gV : List V → List V → List V} {adr : Addr} (F : FnG X.prog X.w X.K X.mg X.base k adr fd ps sp) (hr : Room k X.A) (hgd : X.A.guards = some []) (hg : Gl X x) (hm : X.mg x = some (.ref adr)) (hk : PySem.W.keepIn X.K (.ref adr) = true) (hb : KBinds X.K fd ps ks g gV)
    (hkw : PK X kws tk) (hall : (backToKw pos (keywordEach kws X.env)).all (·.1.isSome) = true) (hks : (backToKw pos (keywordEach kws X.env)).filterMap (·.1) = ks)
    (hdb : (x == ("__debug__" : Str)) = false)
    (hpl : ((backTo pos (starEach [] X.env)).any (·.1) || (backToKw pos (keywordEach kws X.env)).any (·.1.isNone)) = false) :
    PE X (.Call (.Name x p) [] kws pos) (tCallK sp gV E tNil tk) := by
  refine ⟨fun pins s σ H Q I h => ?_⟩
  refine wpAny_Call_Name_kw (ld_glob I hg hm ?_ hdb)
  refine PySem.W.callWith_KW0 (h₀ := X.base) I.ok.mod.kin hk hall ?_ hpl
  refine thn (hkw.run pos pins s σ H _ I h) fun ws s2 ⟨zs, H2, I2, rz, q2⟩ => ⟨I2.kIn, ?_⟩
  rw [hks]
  exact run_fnkG F hr hgd hb I2 (us := []) .nil rz q2
theorem reps_pick : ∀ {pm : List Nat} {vs : List V} {us : List T}, Reps G F H vs us → (∀ i ∈ pm, i < us.length) → Reps G F H (pm.map fun i => vs.getD i .non) (pm.map fun i => us.getD i .non)
  | [], _, _, _, _ => .nil
  | i :: pm, vs, us, r, h => by
    refine .cons ?_ (reps_pick r fun j hj => h j (List.mem_cons_of_mem _ hj))
    have hi := h i List.mem_cons_self
    obtain ⟨v, h1, h2⟩ := r.get (List.getElem?_eq_getElem hi)
    dsimp only
    rw [List.getD_eq_getElem?_getD, List.getD_eq_getElem?_getD, h1, List.getElem?_eq_getElem hi]
    exact h2
def lenEs : Es → Option Nat
  | .nil => some 0
  | .cons _ es => (lenEs es).map (· + 1)
  | .star _ _ => none
theorem evEs_len {call : Nat → List T → R Val} {Qa : List Val → Nat → Prop} {E : Nat → T → Nat → Prop} : ∀ {As : Es} {τ : TM.Env} {b n : Nat}, lenEs As = some n → Sat Qa E (evEs rp call As τ) b → Sat (fun us b' => us.length = n ∧ Qa us b') E (evEs rp call As τ) b
  | .nil, τ, b, n, e, h => by
    cases e
    exact ⟨rfl, h⟩
  | .star A As, τ, b, n, e, h => nomatch e
  | .cons A As, τ, b, n, e, h => by
    obtain ⟨m, e1, rfl⟩ := Option.map_eq_some_iff.1 (show (lenEs As).map (· + 1) = some n from e)
    have h : Sat Qa E (evE rp call A τ >>= fun v => evEs rp call As τ >>= fun vs => R.ok (v :: vs)) b := h
    refine (sat_bind _ _).2 (((sat_bind _ _).1 h).imp (fun v b1 hv => ?_) fun _ _ _ z => z)
    refine (sat_bind _ _).2 ((evEs_len e1 ((sat_bind _ _).1 hv)).imp (fun us b2 hu => ?_) fun _ _ _ z => z)
    exact ⟨congrArg (· + 1) hu.1, hu.2⟩
theorem manyL {β : Type} {call : Nat → List T → R Val} {W : XW} {f : List Val → R β} {Qb : β → Nat → Prop} {Eb : Nat → T → Nat → Prop} (pre : Pre G F H σ τ b) {Rq : List V → Hp → Prop} {n : Nat} (hn : lenEs As = some n)
    (h : Sat Qb Eb (do let xs ← evEs rp call As τ; f xs) b) (he : ∀ c t b', Eb c t b' → ES G F H W c t b')
    (k : ∀ us vs F1 H1 b1, us.length = n → Stp G F H F1 H1 b1 → Reps G F1 H1 vs (ts us) → Sat Qb Eb (f us) b1 → Rq vs H1) : tEs rp call W As σ H Rq := by
  refine ⟨G, F, τ, b, pre, (evEs_len hn ((sat_bind _ _).1 h)).imp (fun us b1 hx vs H1 F1 fp st r o => ?_) he⟩
  exact k us vs (por F1 fp) H1 b1 hx.1 (st.freeze pre.inv (fun a ha => (o.2 a ha).1) r.there) r.share hx.2
/-- a call with keywords, read -/
theorem callk_read {pm : List Nat} {np : Nat} {ks : List Str} {E : XK} (hP : P[f]? = some en) (hw : wfE en = true) (hnp : lenEs As = some np) (hnk : lenEs Bs = some ks.length) (hpm : ∀ i ∈ pm, i < np + ks.length) (h : tE rp (run rp (fds P) k) W0 (.callk f pm As Bs) σ H Q) :
    tEs rp (run rp (fds P) k) W0 As σ H fun vs H1 => tEs rp (run rp (fds P) k) W0 Bs σ H1 fun zs H2 => spT rp P k f en.ps.length (kgV np ks pm vs zs) H2 Q E := by
  obtain ⟨G, F, τ, b, pre, h⟩ := h
  have h : Sat (EQ G F H Q) (ES G F H W0) (evEs rp (run rp (fds P) k) As τ >>= fun vs => evEs rp (run rp (fds P) k) Bs τ >>= fun ws => run rp (fds P) k f (pm.map fun i => (ts vs ++ ts ws).getD i .non)) b := h
  refine manyL pre hnp h (fun _ _ _ z => z) fun us vs F1 H1 b1 l1 st r hx => ?_
  refine manyL (pre.next st) hnk hx (fun _ _ _ z => z.next pre.inv st) fun ws zs F2 H2 b2 l2 st2 r2 hy => ?_
  have st12 := st.trans pre.inv st2
  have r1 := r.lift (st2.lift st.inv st.ok)
  have e1 : vs.length = np := by rw [r.length, ts_length, l1]
  have e2 : zs.length = ks.length := by rw [r2.length, ts_length, l2]
  unfold kgV
  rw [if_pos ⟨e1, e2⟩]
  refine sp_of hP hw (W := W0) st12.ok st12.inv (reps_pick (r1.append r2) fun i hi => ?_) (sat_next pre.inv st12 hy)
  rw [List.length_append, ts_length, ts_length, l1, l2]
  exact hpm i hi
theorem se_callk {pm : List Nat} {np : Nat} {ks : List Str} (hr : Room k X.A) (hgd : X.A.guards = some []) (hP : P[f]? = some en) (hw : wfE en = true) (hc : CallOk X rp P k f en) (hkt : (np, ks, pm) ∈ en.kts) (hg : Gl X en.nm) (hnp : lenEs As = some np) (hnk : lenEs Bs = some ks.length) (hpm : ∀ i ∈ pm, i < np + ks.length)
    (ha : SA X rp (run rp (fds P) k) W0 (e :: es) As) (hkw : SK X rp (run rp (fds P) k) W0 kws Bs) (hall : (backToKw pos (keywordEach kws X.env)).all (·.1.isSome) = true) (hks : (backToKw pos (keywordEach kws X.env)).filterMap (·.1) = ks)
    (hdb : (en.nm == ("__debug__" : Str)) = false) (he : starEach (e :: es) X.env = (false, eval e X.env) :: starEach es X.env) (hpl : ((backTo pos (starEach (e :: es) X.env)).any (·.1) || (backToKw pos (keywordEach kws X.env)).any (·.1.isNone)) = false) :
    SE X rp (run rp (fds P) k) W0 (.Call (.Name en.nm p) (e :: es) kws pos) (.callk f pm As Bs) := by
  obtain ⟨adr, fdt, F, hm, hk, hb, hkb⟩ := hc.ex
  exact PE.imp (pe_callKG (E := fun _ _ _ => False) F hr hgd hg hm hk (hkb _ hkt) ha hkw hall hks hdb he hpl) fun σ H Q h => callk_read hP hw hnp hnk hpm h
theorem se_callk0 {pm : List Nat} {ks : List Str} (hr : Room k X.A) (hgd : X.A.guards = some []) (hP : P[f]? = some en) (hw : wfE en = true) (hc : CallOk X rp P k f en) (hkt : (0, ks, pm) ∈ en.kts) (hg : Gl X en.nm) (hnk : lenEs Bs = some ks.length) (hpm : ∀ i ∈ pm, i < 0 + ks.length)
    (hkw : SK X rp (run rp (fds P) k) W0 kws Bs) (hall : (backToKw pos (keywordEach kws X.env)).all (·.1.isSome) = true) (hks : (backToKw pos (keywordEach kws X.env)).filterMap (·.1) = ks)
    (hdb : (en.nm == ("__debug__" : Str)) = false) (hpl : ((backTo pos (starEach [] X.env)).any (·.1) || (backToKw pos (keywordEach kws X.env)).any (·.1.isNone)) = false) :
    SE X rp (run rp (fds P) k) W0 (.Call (.Name en.nm p) [] kws pos) (.callk f pm .nil Bs) := by
  obtain ⟨adr, fdt, F, hm, hk, hb, hkb⟩ := hc.ex
  refine PE.imp (pe_callK0 (E := fun _ _ _ => False) F hr hgd hg hm hk (hkb _ hkt) hkw hall hks hdb hpl) fun σ H Q h => ?_
  exact es_nil (callk_read (np := 0) hP hw rfl hnk hpm h)

/-! ### built-ins -/
def biName : BI → Str
  | .len => "len" | .list => "list" | .tuple => "tuple" | .int => "int" | .abs => "abs" | .sum => "sum" | .min => "min" | .max => "max" | .all => "all" | .any => "any"
  | _ => "?"
def biIs : BI → Bool
  | .len | .list | .tuple | .int | .abs | .sum | .min | .max | .all | .any => true
  | _ => false
theorem se_bi {call : Nat → List T → R Val} {W : XW} {f : BI} (hc : X.calm = true) (hb : biIs f = true) (hg : Gl X (biName f)) (hm : X.mg (biName f) = none) (ha : SA X rp call W (e :: es) As) (he : starEach (e :: es) X.env = (false, eval e X.env) :: starEach es X.env) (hpl : (backTo pos (starEach es X.env)).any (·.1) = false) :
    SE X rp call W (.Call (.Name (biName f) p) (e :: es) [] pos) (.bi f As) := by
  have fin : ∀ {r : List V → Hp → VK → Prop}, BiOk rp f r → ∀ σ H Q, tE rp call W (.bi f As) σ H Q → tCB r (tEs rp call W As) σ H Q := fun {r} ok σ H Q ⟨G, F, τ, b, pre, h⟩ =>
    many pre h (fun _ _ _ z => z) fun us vs F1 H1 b1 st r' hx => ok G F1 H1 b1 (ts us) vs Q W st.ok st.inv r' (sat_next pre.inv st hx)
  cases f
  case len => exact PE.imp (pe_callB (call_len.or call_lenD) hg hm (by decide +kernel) ha (by decide) (by decide) he hpl) (fin (bi_len X.K))
  case list => exact PE.imp (pe_callTy (call_list_of.or (call_listD hc)) hg hm (by decide +kernel) ha (by decide) (by decide) he hpl) (fin (bi_list X.K))
  case tuple => exact PE.imp (pe_callTy call_tuple_of hg hm (by decide +kernel) ha (by decide) (by decide) he hpl) (fin (bi_tuple X.K))
  case int => exact PE.imp (pe_callTy call_int1 hg hm (by decide +kernel) ha (by decide) (by decide) he hpl) (fin bi_int)
  case abs => exact PE.imp (pe_callB call_abs hg hm (by decide +kernel) ha (by decide) (by decide) he hpl) (fin bi_abs)
  case sum => exact PE.imp (pe_callB (cr_sumA hc) hg hm (by decide +kernel) ha (by decide) (by decide) he hpl) (fin (bi_sum X.K))
  case min => exact PE.imp (pe_callB ((cr_min hc).or (call_min2 hc)) hg hm (by decide +kernel) ha (by decide) (by decide) he hpl) (fin (bi_min X.K))
  case max => exact PE.imp (pe_callB ((cr_max hc).or (call_max2 hc)) hg hm (by decide +kernel) ha (by decide) (by decide) he hpl) (fin (bi_max X.K))
  case all => exact PE.imp (pe_callB (cr_all hc) hg hm (by decide +kernel) ha (by decide) (by decide) he hpl) (fin (bi_all X.K))
  case any => exact PE.imp (pe_callB (cr_any hc) hg hm (by decide +kernel) ha (by decide) (by decide) he hpl) (fin (bi_any X.K))
  all_goals cases hb
end
end TM

set_option Elab.async false
set_option linter.all false
set_option maxRecDepth 100000
set_option maxHeartbeats 4000000
namespace TM
open PySem PySem.Spec L2
section
variable {X : Cx} {rp : T → Str} {call : Nat → List T → R Val} {W : XW} {G : Gb} {F0 F F1 F2 F3 : Fz} {H0 H H1 : Hp} {b0 b b1 : Nat} {σ : St} {τ τ2 : TM.Env} {fps fps2 : Fps} {D : Ends} {pos p p2 p3 p4 apos cpos tpos : Pos} {e ea eb ec tge iter elt : Expr} {es elts ifs : List Expr} {A B C : E} {As Bs : Es} {kk k2 : Nat} {st : Stmt} {sts sts2 : List Stmt} {s : S} {ss ss2 : Ss} {I : It} {tg : Tg} {fz : List Nat} {v w : V} {u : Val} {fp fp3 : List Addr} {a : Addr} {o : HO} {i : Nat} {u3 : Val}

/-! ### x[i] = e -/
theorem RepDs.set {y : V} {t : T} {fpy : List Addr} (ry : RepD G F H y t fpy) (ndy : fpy.Nodup) : ∀ {vs : List V} {us : List T} {fp : List Addr} (n : Nat), RepDs G F H vs us fp → (∀ c ∈ fp, c ∉ fpy) → fp.Nodup →
    ∃ fpn, RepDs G F H (vs.set n y) (us.set n t) fpn ∧ (∀ c ∈ fpn, c ∈ fp ∨ c ∈ fpy) ∧ fpn.Nodup
  | _, _, _, _, .nil, _, _ => ⟨[], .nil, (fun _ k => nomatch k), List.nodup_nil⟩
  | _, _, _, 0, .cons (fp := f1) (fp' := f2) r rs, dis, nd => ⟨fpy ++ f2, .cons ry rs, fun c hc => (List.mem_append.mp hc).elim .inr fun k => .inl (List.mem_append_right _ k),
      nodup_app ndy (List.nodup_append.mp nd).2.1 fun c hc k => dis c (List.mem_append_right _ k) hc⟩
  | _, _, _, n + 1, .cons (fp := f1) (fp' := f2) r rs, dis, nd => by
    obtain ⟨fpn, h1, h2, h3⟩ := RepDs.set ry ndy n rs (fun c hc => dis c (List.mem_append_right _ hc)) (List.nodup_append.mp nd).2.1
    refine ⟨f1 ++ fpn, .cons r h1, fun c hc => (List.mem_append.mp hc).elim (fun k => .inl (List.mem_append_left _ k)) fun k => (h2 c k).imp (fun k => List.mem_append_right _ k) id, nodup_app (List.nodup_append.mp nd).1 h3 fun c hc k => ?_⟩
    rcases h2 c k with q | q
    · exact (List.nodup_append.mp nd).2.2 c hc c q rfl
    · exact dis c (List.mem_append_left _ hc) q
theorem Reps.set {y : V} {t : T} (ry : Rep G F H y t) : ∀ {vs : List V} {us : List T} (n : Nat), Reps G F H vs us → Reps G F H (vs.set n y) (us.set n t)
  | _, _, _, .nil => .nil
  | _, _, 0, .cons r rs => .cons ry rs
  | _, _, n + 1, .cons r rs => .cons r (rs.set ry n)
theorem ixN_nat {n : Nat} {i : Int} (h : 0 ≤ i ∧ i < n) : ixN n i = some i.toNat := by
  unfold ixN
  rw [if_pos h.1, if_pos h.2]
theorem ixN_z {n : Nat} {i : Int} (h : 0 ≤ ixZ n i ∧ ixZ n i < n) : ixN n i = some (ixZ n i).toNat := by
  unfold ixZ at *
  unfold ixN
  by_cases h0 : i < 0
  · rw [if_pos h0] at h ⊢
    rw [if_neg (by omega), if_pos (by omega)]
  · rw [if_neg h0] at h ⊢
    rw [if_pos h.1, if_pos h.2]
def notSlice : Expr → Bool
  | .Slice .. => false
  | _ => true
theorem plainIx_of (h : notSlice e = true) : PlainIx e := by cases e <;> first | (intro o i; rfl) | cases h
theorem ss_sto {x : Str} (hsl : notSlice ec = true) (hN : X.N[i]? = some x) (hvi : Vis X.env.scope x) (hd : (x == ("__debug__" : Str)) = false) (hcd : (x == ("__classdict__" : Str)) = false) (he : SE X rp call W e A) (hk : SE X rp call W ec C)
    (hs : swapsWithSole [.Subscript (.Name x p) ec p2] e pos.line X.env = pure false) (hw : swappedStores [.Subscript (.Name x p) ec p2] e X.env = pure none) :
    SS X rp call W (.Assign [.Subscript (.Name x p) ec p2] e pos) (.sto i C A fz) :=
  PS.imp (ps_asg he (pg_sub (pe_var hN hvi hd hcd) hk set_list (by cases ec <;> first | (intro v; rfl) | cases hsl)) hs hw rfl) fun D σ H ⟨G, F0, H0, b0, F, τ, b, fps, s0, f0, S, h⟩ => by
    obtain ⟨hl, h⟩ := sat_iteB (show Sat _ _ (if lstAt τ i = true then _ else R.stuck) b from h)
    obtain ⟨us0, l0, e0⟩ := lstAt_get hl
    obtain ⟨v0, hv, r0⟩ := S.vw i _ e0
    refine ⟨G, _, hide fz τ, b, S.preH s0 fz, ((sat_bind _ _).1 h).imp (fun u b1 hu y H1 F1 fp st r o => ?_) fun _ _ _ z => z.see s0 S⟩
    refine ⟨v0, hv, ?_⟩
    refine ⟨G, F1, hide fz τ, b1, (S.preH s0 fz).next st, ((sat_bind _ _).1 hu).imp (fun w b2 hw kv H2 F2 fpw st2 rw' ow => ?_) fun _ _ _ z => (z.see s0 S).next (S.preH s0 fz).inv st⟩
    have st12 := st.trans (S.preH s0 fz).inv st2
    have nvf : ∀ a ∈ fp, ¬ vol G a := fun a ha => not_vol_of_none (S.preH s0 fz).inv (o.2 a ha).1
    have r12 := own_lift st.inv st.ok st2 r nvf
    have o12 := own_same st2 o r.there
    obtain ⟨F3, fps3, S3, L, r3, ft, _⟩ := S.afterV s0 st12 r12 o12
    dsimp only at hw
    split at hw
    · rename_i us l n e1 ek
      obtain ⟨hn', hw⟩ := sat_ite hw
      have hl2 : l < 2 := (lim_lt (l := l) (m := (ixZ us.length n).toNat) (n := us.length) (by omega)).1
      have hn : 0 ≤ ixZ us.length n ∧ ixZ us.length n < us.length := ⟨hn'.1, by have := (lim_lt (l := l) (m := (ixZ us.length n).toNat) (n := us.length) (by omega)).2; omega⟩
      have ekv : kv = .int n := by
        have := rw'.share
        rw [ek] at this
        exact repIntInv this
      subst ekv
      obtain ⟨a, vs, ea, ha, hvl, _, F4, fps4, S4, L4⟩ := grow s0 hl2 S3 (zs := us.set (ixZ us.length n).toNat u.t) (newV := fun vs => vs.set (ixZ us.length n).toNat y) (full := Nat.beq u.lv 2) e1 hv ft r3.there (fun q vs fp0 rd dis nd => RepDs.set (deep_of q r3) ft.nd _ rd dis nd) (fun F5 vs h1 h2 q => q.set (share_to h1 h2 r3) _)
      refine ⟨a, vs, n, (ixZ us.length n).toNat, ea, rfl, ha, by rw [hvl]; exact ixN_z hn, ?_⟩
      have hw : SQ G F0 H0 F H D (.nx ((after fz u τ).set i (some ⟨.lst (us.set (ixZ us.length n).toNat u.t), if l = 1 ∧ u.lv = 2 then 2 else 1⟩))) b2 := hw
      rw [lev_eq] at hw
      exact hw _ _ _ _ S4 (L.trans L4)
    · exact hw.elim

/-! ### a, b = x, y -/
theorem RepVs.any2 : ∀ {vs : List V} {us : List Val} {fp : List Addr}, all2 us = true → RepVs G F H vs us fp → RepVs G F1 H vs us fp
  | _, _, _, _, .nil => .nil
  | _, u :: us, _, h, .cons r rs => by
    have h : (Nat.beq u.lv 2 && all2 us) = true := h
    rw [Bool.and_eq_true] at h
    refine .cons ?_ (RepVs.any2 h.2 rs)
    have e : u.lv = 2 := Nat.eq_of_beq_eq_true h.1
    obtain ⟨t, lv⟩ := u
    cases e
    exact RepD.any r
theorem sat_setVals {α : Type} {Qa : α → Nat → Prop} {E : Nat → T → Nat → Prop} {f : TM.Env → R α} : ∀ {is : List Nat} {us : List Val} {τ : TM.Env}, Sat Qa E (setVals is us τ >>= f) b → ∃ τ', setVals is us τ = .ok τ' ∧ Sat Qa E (f τ') b
  | [], [], τ, h => ⟨τ, rfl, h⟩
  | [], _ :: _, τ, h => h.elim
  | _ :: _, [], τ, h => h.elim
  | i :: is, u :: us, τ, h => sat_setVals (is := is) (us := us) h
theorem par_read {is : List Nat} (h : tS rp call W (.par is As fz) D σ H) : tEs rp call W As σ H fun vs H1 => vs.length = is.length ∧ D.nx (setS is vs σ) H1 ∧ ∀ p, H1 p = none → D.nx (setS is vs σ) (upd H1 p (.tup vs)) := by
  obtain ⟨G, F0, H0, b0, F, τ, b, fps, s0, f0, S, h⟩ := h
  refine ⟨G, _, hide fz τ, b, S.preH s0 fz, ((sat_bind _ _).1 h).imp (fun us b1 hu vs H1 F1 fp st r o => ?_) fun _ _ _ z => z.see s0 S⟩
  have hnew : ∀ a ∈ fp, H0 a = none := fun a ha => none_back s0 S.stp.inv S.stp.ext (o.2 a ha).1
  have hdis : ∀ a ∈ fp, ∀ j, a ∉ fps j := fun a ha j k => by
    obtain ⟨w, e⟩ := S.there k
    rw [(o.2 a ha).1] at e; cases e
  have key : ∃ F2 fps2, SR G F0 H0 F2 H1 σ (if all2 us then τ else frz fz τ) b1 fps2 ∧ Lift G F F2 H H1 ∧ RepVs G F2 H1 vs us fp ∧ Fit H0 F2 fps2 fp := by
    cases h2 : all2 us with
    | true =>
      rw [if_pos rfl]
      exact ⟨_, fps, S.behind s0 st, S.behindLift s0 st, r.any2 h2, ⟨o.1, fun a ha => ⟨hnew a ha, fun f => (o.2 a ha).2 f.1⟩, hdis⟩⟩
    | false =>
      rw [if_neg (by decide)]
      refine ⟨F1, _, S.frozen s0 st, S.frozenLift s0 st, r, ⟨o.1, fun a ha => ⟨hnew a ha, (o.2 a ha).2⟩, fun a ha j k => ?_⟩⟩
      unfold fpsOut at k
      split at k
      · cases k
      · exact hdis a ha j k
  obtain ⟨F2, fps2, S2, L, r2, ft⟩ := key
  obtain ⟨τ', e', hu⟩ := sat_setVals hu
  obtain ⟨fps3, S3, hl⟩ := S2.storeAll r2 ft e'
  refine ⟨hl.symm, hu _ _ _ _ S3 L, fun p hp => ?_⟩
  have stn := stp_new (o := .tup vs) S3.stp.ok S3.stp.inv hp
  exact hu _ _ _ _ (S3.step s0 stn) (L.trans (stn.lift S3.stp.inv S3.stp.ok))
theorem ss_par2 {i j : Nat} {x y : Str} (hc : X.calm = true) (hN : X.N.Nodup) (hi : X.N[i]? = some x) (hj : X.N[j]? = some y) (hij : i ≠ j) (hx : X.env.scope.names.lookup x = some .local) (hy : X.env.scope.names.lookup y = some .local) (ha : SA X rp call W [ea, eb] As)
    (hw : swappedStores [.Tuple [.Name x p, .Name y p2] kk tpos] (.Tuple [ea, eb] k2 p3) X.env = pure (some [x, y])) :
    SS X rp call W (.Assign [.Tuple [.Name x p, .Name y p2] kk tpos] (.Tuple [ea, eb] k2 p3) pos) (.par [i, j] As fz) :=
  PS.imp (ps_par hc hN hi hj hij hx hy ha hw rfl) fun D σ H h => by
    obtain ⟨G, F, τ, b, pre, h⟩ := par_read h
    refine ⟨G, F, τ, b, pre, h.imp (fun us b1 hu vs H1 F1 fp st r o => ?_) fun _ _ _ z => z⟩
    obtain ⟨hl, h1, _⟩ := hu vs H1 F1 fp st r o
    match vs, hl, h1 with
    | [v, w], _, h1 => exact ⟨v, w, rfl, h1⟩
theorem ss_par3 {i j l : Nat} {x y z : Str} (hc : X.calm = true) (hN : X.N.Nodup) (hi : X.N[i]? = some x) (hj : X.N[j]? = some y) (hl : X.N[l]? = some z) (hij : i ≠ j) (hil : i ≠ l) (hjl : j ≠ l) (hx : X.env.scope.names.lookup x = some .local) (hy : X.env.scope.names.lookup y = some .local) (hz : X.env.scope.names.lookup z = some .local) (ha : SA X rp call W [ea, eb, ec] As)
    (hw : swappedStores [.Tuple [.Name x p, .Name y p2, .Name z p4] kk tpos] (.Tuple [ea, eb, ec] k2 p3) X.env = pure (some [x, y, z])) :
    SS X rp call W (.Assign [.Tuple [.Name x p, .Name y p2, .Name z p4] kk tpos] (.Tuple [ea, eb, ec] k2 p3) pos) (.par [i, j, l] As fz) :=
  PS.imp (ps_par3 hc hN hi hj hl hij hil hjl hx hy hz ha hw rfl) fun D σ H h => by
    obtain ⟨G, F, τ, b, pre, h⟩ := par_read h
    refine ⟨G, F, τ, b, pre, h.imp (fun us b1 hu vs H1 F1 fp st r o => ?_) fun _ _ _ z => z⟩
    obtain ⟨hl, h1, _⟩ := hu vs H1 F1 fp st r o
    match vs, hl, h1 with
    | [v, w, q], _, h1 => exact ⟨v, w, q, rfl, h1⟩
theorem ss_parT {is : List Nat} (hn : Nat.ble is.length LINE = true) (hg : PG X tge (gTup X.K is.length (gNames is))) (ha : SA X rp call W es As)
    (hs : swapsWithSole [tge] (.Tuple es k2 p3) pos.line X.env = pure false) (hw : swappedStores [tge] (.Tuple es k2 p3) X.env = pure none) (h1 : (assignEach [tge] X.env).map (·.2) = [assign tge X.env]) :
    SS X rp call W (.Assign [tge] (.Tuple es k2 p3) pos) (.par is As fz) :=
  PS.imp (ps_asg (pe_tup ha) hg hs hw h1) fun D σ H h => by
    obtain ⟨G, F, τ, b, pre, h⟩ := par_read h
    refine ⟨G, F, τ, b, pre, h.imp (fun us b1 hu vs H1 F1 fp st r o => ?_) fun _ _ _ z => z⟩
    obtain ⟨hl, _, h2⟩ := hu vs H1 F1 fp st r o
    refine ⟨by rw [hl]; exact LE_line hn, fun p hp => ⟨p, vs, rfl, SqT.of upd_same, hl, gNames_iff hl.symm (h2 p hp)⟩⟩
end
end TM

set_option Elab.async false
set_option linter.all false
set_option maxRecDepth 100000
set_option maxHeartbeats 8000000
namespace TM
open PySem PySem.Spec L2
open Sem (wp)

/-! ### enumerate of a tuple -/
theorem meets_enumerate_newT (l : Addr) (o : Obj) (items : Array Value) (n : Nat) (hc : o.cls = .type "tuple") (hd : o.data = .seq items n) :
    Meets (Builtin.«enumerate.__new__» ⟨[.type "enumerate", .ref l], []⟩) (fun _ R s => s.heap.get? l = some o ∧
      R (.ok (.ret (.ref (s.heap.push { cls := .type "tuple_iterator", data := .fields #[.ref l, .int 0 0] }).objs.size)))
        { s with heap := (s.heap.push { cls := .type "tuple_iterator", data := .fields #[.ref l, .int 0 0] }).push { cls := .type "enumerate", data := .fields #[.none, .bool false, .ref s.heap.objs.size, rawInt 0, .none, .none] } }) :=
  .of_wp fun prog w A R s h => by
    obtain ⟨hp, g, d, tk, os⟩ := s
    obtain ⟨hl, h⟩ := h
    obtain ⟨c, dct, dt, sl⟩ := o
    replace hc : c = .type "tuple" := hc
    replace hd : dt = .seq items n := hd
    subst hc hd
    have hsub := sub_enumerate
    have hL : Heap.IsTuple (Shared.heap ⟨hp, g, d, tk, os⟩) l items := ⟨_, hl, rfl, n, rfl⟩
    wp_walk using wpAny_loadPart' hl
    refine wpAny_stack_any fun st => wpAny_pure ?_
    split
    · rename_i c _ _ _ _ _
      cases (c == Value.type "enumerate")
      · wp_walk using wpAny_loadPart' hl, wpAny_pyIter_tuple hL
        exact ⟨_, rfl, h⟩
      · wp_walk using wpAny_loadPart' hl, wpAny_pyIter_tuple hL
        exact ⟨_, rfl, h⟩
    · wp_walk using wpAny_loadPart' hl, wpAny_pyIter_tuple hL
      exact ⟨_, rfl, h⟩
theorem call_enumerate_tuple {prog : Program} {w : World} {A : Around} {E : Value → Shared → Prop} {s : Shared} {l : Addr} {items : Array Value} {Q : Value → Shared → Prop} (hL : s.heap.IsTuple l items)
    (h : ∀ h', IsEnum h' (s.heap.objs.size + 1) s.heap.objs.size 0 .none → h'.IsTupleIter s.heap.objs.size l 0 → h'.objs.size = s.heap.objs.size + 2 →
      (∀ b o, s.heap.get? b = some o → h'.get? b = some o) → Q (.ref (s.heap.objs.size + 1)) { s with heap := h' }) :
    wpAny (model prog w) A (call (.type "enumerate") [.ref l]) Q E s := by
  obtain ⟨o, hl, hc, n, hd⟩ := hL
  refine callType_new F.called_enumerate (by decide) (F.typeCall_enumerate_1 _) (F.newCall_enumerate_1 _) (fun obj => F.args_object_init_2 obj _) F.entry_enumerate_new
    (meets_enumerate_newT l o items n hc hd) ⟨hl, ?_⟩
  have hz : (s.heap.push { cls := .type "tuple_iterator", data := .fields #[.ref l, .int 0 0] }).objs.size = s.heap.objs.size + 1 := Heap.size_push ..
  show _ ∧ _
  rw [hz]
  have he : IsEnum ((s.heap.push { cls := .type "tuple_iterator", data := .fields #[.ref l, .int 0 0] }).push
      { cls := .type "enumerate", data := .fields #[.none, .bool false, .ref s.heap.objs.size, rawInt 0, .none, .none] }) (s.heap.objs.size + 1) s.heap.objs.size 0 .none := by
    have := Heap.get?_push_size (s.heap.push { cls := .type "tuple_iterator", data := .fields #[.ref l, .int 0 0] })
      (o := { cls := .type "enumerate", data := .fields #[.none, .bool false, .ref s.heap.objs.size, rawInt 0, .none, .none] }) rfl
    rw [hz] at this; exact this
  refine ⟨⟨_, he, rfl⟩, h _ he ⟨_, Heap.get?_push_of_some _ (Heap.get?_push_size _ rfl), rfl, rfl⟩ (by rw [Heap.size_push, hz]) fun b o x => Heap.get?_push_of_some _ (Heap.get?_push_of_some _ x)⟩
theorem enumT_end {prog : Program} {w : World} {A : Around} {E : Value → Shared → Prop} {s : Shared} {e it l : Addr} {i : Nat} {items : Array Value} {old : Value} {Q : Option Value → Shared → Prop} (hh : A.handled = none)
    (he : IsEnum s.heap e it i old) (hit : s.heap.IsTupleIter it l i) (ht : s.heap.IsTuple l items) (hx : items[i]? = none) (hQ : ∀ h', Heap.ExtBut it s.heap h' → Q none { s with heap := h' }) : wpAny (model prog w) A (pyNext (.ref e)) Q E s := by
  have hT : s.TypeIs (.ref e) "enumerate" := ⟨_, he, rfl⟩
  unfold pyNext
  refine wpAny_bind (wpAny_attempt (wpAny_callSpecial?_slot (name := Str.ofString "__next__") hT F.slot_enumerate_next
    (wpAny_call_entry F.slot_enumerate_next hT F.entry_enumerate_next ?_ (F.args_enumerate_next_1 _))))
  show wpAny _ _ (field (.ref e) 2 >>= _) _ _ _
  refine wpAny_bind (wpAny_field he rfl (x := .ref it) rfl ?_)
  refine wpAny_bind (wpAny_nextOf_tuple_end (A := A.in1) hh hit ht hx fun h' x he' hx' => ?_)
  obtain ⟨o, ho, hc⟩ := hx'
  refine wpAny_bind (wpAny_isInstance (T := "StopIteration") (b := true) ⟨o, ho, hc⟩ isSubtype_stop ?_)
  exact wpAny_pure (hQ _ he')
/-- the tuple at a, each item in a new pair -/
def IteT (K : PySem.W.Frag) (a : Addr) : L2.It :=
  ⟨fun i H => ∃ (xs : List V) (x : V), SqT K H a xs ∧ xs[i]? = some x, fun i H v H' => ∃ T x, v = .ref T ∧ H T = none ∧ H' = upd H T (.tup [.int (i : Nat), x]) ∧ ∀ xs, SqT K H a xs → xs[i]? = some x, fun i H => ∃ xs : List V, SqT K H a xs ∧ xs.length ≤ i⟩
theorem turn_enumT {P : Program} {w : World} {K : PySem.W.Frag} {elts : List Expr} {kk : Nat} {tpos : Pos} (a e it : Addr) :
    Turn P w K (.Tuple elts kk tpos) (IteT K a) [e, it] e (fun i h => (∃ old, IsEnum h e it ((i : Nat) : Int) old) ∧ h.IsTupleIter it a i ∧ e ≠ it) where
  mem := by simp
  obj := fun i h st b hb => by
    obtain ⟨⟨old, he⟩, ⟨o, ho, hc, hd⟩, _⟩ := st
    have e' : b = e ∨ b = it := by simpa using hb
    rcases e' with z | z
    · rw [z]; exact ⟨_, he, fun v q => nomatch q⟩
    · rw [z]; exact ⟨o, ho, fun v q => by rw [hd] at q; cases q⟩
  keep := fun i h h' st k => let ⟨⟨old, he⟩, hi, hne⟩ := st; ⟨⟨old, k e (by simp) _ he⟩, hi.at fun o q => k it (by simp) o q, hne⟩
  item := by
    intro X hP hw hK hc i pins s σ H E I hf st hg
    subst hP hw hK
    obtain ⟨⟨old, he⟩, hit, hne⟩ := st
    obtain ⟨xs, x, hq, hx⟩ := hg
    obtain ⟨its, rv, p, hz⟩ := I.tuple hq
    have p' : s.heap.IsTuple a its.toArray := p
    obtain ⟨u, hu, ru⟩ := rv.get hx
    have hel : e < s.heap.objs.size := Heap.lt_size he
    have hil : it < s.heap.objs.size := by obtain ⟨_, q, _⟩ := hit; exact Heap.lt_size q
    have hai : a ≠ it := by
      rintro rfl
      obtain ⟨o1, q1, c1, _⟩ := p'
      obtain ⟨o2, q2, c2, _⟩ := hit
      rw [q1] at q2; cases q2
      rw [c1] at c2; exact absurd (Value.type.inj c2) (by decide)
    have hea : e ≠ a := by
      rintro rfl
      obtain ⟨o1, q1, c1, _⟩ := p'
      have he : s.heap.get? e = some _ := he
      rw [q1] at he; cases he
      exact absurd (Value.type.inj c1) (by decide)
    obtain ⟨hil', _⟩ := List.getElem?_eq_some_iff.1 hu
    refine wpAny_pyNext_enum_itemD (Draws.tuple (A := X.A.in1) (show X.A.in1.handled = none from I.ok.hd hc) it a hai its.toArray) he ⟨hit, p'⟩ (by simpa using hil') hne (by simp [hne, hea]) fun x' h' tk hPx ho hst' hT hsz hk => ?_
    have hxu : x' = u := by
      have hPx : its.toArray[i]? = some x' := hPx
      rw [List.getElem?_toArray, hu] at hPx
      exact (Option.some.inj hPx).symm
    subst hxu
    obtain ⟨hit', _⟩ := hst'
    refine ⟨_, rfl, wpAny_letOwnedTupleGo_enum (s := { s with heap := h', toks := tk + 1 }) ho fun h'' he' sb => ?_⟩
    have hT2 : h''.get? s.heap.objs.size = some { cls := .type "tuple", data := .seq #[.int i tk, x'] } := (sb.2 _ (Nat.ne_of_gt hel)).trans hT
    have new : ObjOk X.prog X.w (upd H s.heap.objs.size (.tup [.int (i : Nat), x])) h'' s.heap.objs.size (.tup [.int (i : Nat), x]) :=
      ⟨by show 2 ≤ sizeLine; decide, [.int i tk, x'], .cons ⟨_, rfl⟩ (.cons ru .nil), ⟨_, hT2, rfl, _, rfl⟩⟩
    have I1 : Inv X pins σ (upd H s.heap.objs.size (.tup [.int (i : Nat), x])) { s with heap := h'', toks := tk + 1 } :=
      I.turnedNew (ch := [e, it]) (fun b ob hb q => (sb.2 b (fun z => hb (by simp [z]))).trans (hk b ob (fun z => hb (by simp [z])) (fun z => hb (by simp [z])) q)) hf (Nat.le_refl _) new
    refine ⟨.ref s.heap.objs.size, _, I1, rfl, ⟨_, x, rfl, I.hok.fresh (Nat.le_refl _), rfl, fun ys hy => by rw [I.tuple_inj hy hq]; exact hx⟩, ⟨⟨x', ?_⟩, hit'.at fun o q => (sb.2 it (Ne.symm hne)).trans q, hne⟩, fun b hb => ?_⟩
    · have e1 : ((i + 1 : Nat) : Int) = (i : Int) + 1 := by omega
      rw [e1]; exact he'
    · have hb' : b < s.heap.objs.size := by
        have e' : b = e ∨ b = it := by simpa using hb
        rcases e' with z | z
        · rw [z]; exact hel
        · rw [z]; exact hil
      rw [upd_ne (Nat.ne_of_lt hb')]
      exact (hf b hb).1
  done := by
    intro X hP hw hK hc i pins s σ H E I hf st hg
    subst hP hw hK
    obtain ⟨⟨old, he⟩, hit, hne⟩ := st
    obtain ⟨xs, hq, hx⟩ := hg
    obtain ⟨its, rv, p, hz⟩ := I.tuple hq
    have p' : s.heap.IsTuple a its.toArray := p
    obtain ⟨f0, f1, f2, f3, f4, f5⟩ := hf it (by simp)
    have hl := rv.length
    have hai : a ≠ it := by
      rintro rfl
      obtain ⟨o1, q1, c1, _⟩ := p'
      obtain ⟨o2, q2, c2, _⟩ := hit
      rw [q1] at q2; cases q2
      rw [c1] at c2; exact absurd (Value.type.inj c2) (by decide)
    refine enumT_end (I.ok.hd hc) he hit p' (by simp; omega) fun h' eb => ⟨rfl, I.turned (t' := s.toks) (fun b o hb q => eb b o hb q) f0 f1 f3 f4 f5⟩
  self := fun A i s Q E st h => let ⟨⟨_, he⟩, _⟩ := st; wpAny_pyIter_enum he h
def iEnumT (K : PySem.W.Frag) (ta : TA) : TI := fun σ H R => ta σ H fun vs H1 => ∃ a xs, vs = [.ref a] ∧ SqT K H1 a xs ∧ R (IteT K a) H1
theorem pi_enumT {X : Cx} {e : Expr} {ta : TA} {p pos tpos : Pos} {elts : List Expr} {kk : Nat} (hg : Gl X "enumerate") (hm : X.mg "enumerate" = none) (ha : PA X [e] ta) (hs : starEach [e] X.env = [(false, eval e X.env)]) :
    PI X (.Tuple elts kk tpos) (.Call (.Name "enumerate" p) [e] [] pos) (iEnumT X.K ta) := by
  refine ⟨fun pins s σ H R I h => ?_⟩
  refine PyProof.Rows.Call_ (ld_blt I hg hm (by decide +kernel : bootBuiltins ("enumerate" : Str) = some (.type "enumerate")) (PyProof.Rows.callWith_type1 (thn (ha.run pos pins s σ H _ I h) fun us s1 ⟨vs, H1, I1, r1, q1⟩ => ?_) hs rfl))
  obtain ⟨a, xs, ex, hq, q⟩ := q1
  subst ex
  cases r1 with
  | cons r rr =>
    cases rr
    cases r
    obtain ⟨its, rv, p', hz⟩ := I1.tuple hq
    refine call_enumerate_tuple (items := its.toArray) p' fun h' he hit hsz hk => wpAny_pyIter_enum he ?_
    have I2 : Inv X pins σ H1 { s1 with heap := h' } := I1.kept (t' := s1.toks) hk
    refine ⟨s1.heap.objs.size + 1, [s1.heap.objs.size + 1, s1.heap.objs.size], _, _, H1, rfl, I2, turn_enumT a (s1.heap.objs.size + 1) s1.heap.objs.size, ⟨⟨.none, he⟩, hit, Nat.succ_ne_self _⟩, fun b hb => ?_, q⟩
    have e' : b = s1.heap.objs.size + 1 ∨ b = s1.heap.objs.size := by simpa using hb
    have hle : s1.heap.objs.size ≤ b := by
      rcases e' with z | z
      · rw [z]; exact Nat.le_add_right _ _
      · rw [z]; exact Nat.le_refl _
    exact I1.fpOk hle (I1.hok.fresh hle)
/-- .. of either -/
def iEnumA (K : PySem.W.Frag) (ta : TA) : TI := fun σ H R => ta σ H fun vs H1 => ∃ a xs, vs = [.ref a] ∧ ((SqL K H1 a xs ∧ R (Ite K a) H1) ∨ (SqT K H1 a xs ∧ R (IteT K a) H1))
theorem pi_enumA {X : Cx} {e : Expr} {ta : TA} {p pos tpos : Pos} {elts : List Expr} {kk : Nat} (hg : Gl X "enumerate") (hm : X.mg "enumerate" = none) (ha : PA X [e] ta) (hs : starEach [e] X.env = [(false, eval e X.env)]) :
    PI X (.Tuple elts kk tpos) (.Call (.Name "enumerate" p) [e] [] pos) (iEnumA X.K ta) := by
  refine ⟨fun pins s σ H R I h => ?_⟩
  refine PyProof.Rows.Call_ (ld_blt I hg hm (by decide +kernel : bootBuiltins ("enumerate" : Str) = some (.type "enumerate")) (PyProof.Rows.callWith_type1 (thn (ha.run pos pins s σ H _ I h) fun us s1 ⟨vs, H1, I1, r1, q1⟩ => ?_) hs rfl))
  obtain ⟨a, xs, ex, q1⟩ := q1
  subst ex
  cases r1 with
  | cons r rr =>
    cases rr
    cases r
    have fin : ∀ b, b = s1.heap.objs.size + 1 ∨ b = s1.heap.objs.size → ∀ {s' : Shared}, FpOk X pins H1 b := fun b e' s' => by
      have hle : s1.heap.objs.size ≤ b := by
        rcases e' with z | z
        · rw [z]; exact Nat.le_add_right _ _
        · rw [z]; exact Nat.le_refl _
      exact I1.fpOk hle (I1.hok.fresh hle)
    rcases q1 with ⟨hq, q⟩ | ⟨hq, q⟩
    · obtain ⟨its, rv, p', hz⟩ := I1.list hq
      refine call_enumerate_list p'.isList fun h' he hit hsz hk => wpAny_pyIter_enum he ?_
      have I2 : Inv X pins σ H1 { s1 with heap := h' } := I1.kept (t' := s1.toks) hk
      exact ⟨s1.heap.objs.size + 1, [s1.heap.objs.size + 1, s1.heap.objs.size], _, _, H1, rfl, I2, turn_enum a (s1.heap.objs.size + 1) s1.heap.objs.size, ⟨⟨.none, he⟩, hit, Nat.succ_ne_self _⟩, fun b hb => fin b (by simpa using hb) (s' := s1), q⟩
    · obtain ⟨its, rv, p', hz⟩ := I1.tuple hq
      refine call_enumerate_tuple (items := its.toArray) p' fun h' he hit hsz hk => wpAny_pyIter_enum he ?_
      have I2 : Inv X pins σ H1 { s1 with heap := h' } := I1.kept (t' := s1.toks) hk
      exact ⟨s1.heap.objs.size + 1, [s1.heap.objs.size + 1, s1.heap.objs.size], _, _, H1, rfl, I2, turn_enumT a (s1.heap.objs.size + 1) s1.heap.objs.size, ⟨⟨.none, he⟩, hit, Nat.succ_ne_self _⟩, fun b hb => fin b (by simpa using hb) (s' := s1), q⟩
section
variable {X : Cx} {rp : T → Str} {call : Nat → List T → R Val} {W : XW} {G : Gb} {F : Fz} {H : Hp} {pos p tpos : Pos} {ea : Expr} {elts : List Expr} {kk : Nat} {A : E}
theorem tw_enumT {K : PySem.W.Frag} {a : Addr} {vs : List V} {us : List T} (e : H a = some (.tup vs)) (r : Reps G F H vs us) : TW G F H (IteT K a) (enumT 0 us) := by
  intro F' H' b' ok s L
  have e' := L.ho a _ e (.inr ⟨_, rfl⟩)
  have r' := r.lift L
  refine ⟨fun i t h => ?_, ⟨vs, SqT.of e', by rw [r.length, enumT_length]; exact Nat.le_refl _⟩⟩
  rw [enumT_get] at h
  cases hu : us[i]? with
  | none => rw [hu] at h; cases h
  | some u =>
    rw [hu] at h
    simp only [Option.map_some, Nat.zero_add, Option.some.injEq] at h
    subst h
    obtain ⟨v, h1, h2⟩ := r'.get hu
    refine ⟨⟨vs, v, SqT.of e', h1⟩, fun x H'' ⟨p, y, q1, q2, q3, q4⟩ => ?_⟩
    have := q4 vs (SqT.of e')
    rw [h1] at this
    cases this
    subst q1 q3
    exact pair_new ok s q2 (.int _) h2
theorem si_enum (hg : Gl X "enumerate") (hm : X.mg "enumerate" = none) (ha : SE X rp call W ea A) (hs : starEach [ea] X.env = [(false, eval ea X.env)]) :
    SI X rp call W (.Tuple elts kk tpos) (.Call (.Name "enumerate" p) [ea] [] pos) (.enum A) := by
  refine PI.imp (pi_enumA hg hm (pa_cons ha pa_nil hs) hs) fun σ H R ⟨G, F, τ, b, pre, h⟩ => ?_
  refine oneI pre h fun ⟨x, lx⟩ v F1 H1 b1 st r hx => ?_
  cases r with
  | lst f e q1 => exact ⟨_, _, rfl, .inl ⟨SqL.of e, hx _ H1 F1 (Stp.refl st.ok st.inv) (tw_enum f e q1)⟩⟩
  | tup e q1 => exact ⟨_, _, rfl, .inr ⟨SqT.of e, hx _ H1 F1 (Stp.refl st.ok st.inv) (tw_enumT e q1)⟩⟩
  | _ => exact hx.elim
end
end TM

set_option Elab.async false
set_option linter.all false
set_option maxRecDepth 100000
set_option maxHeartbeats 8000000
namespace TM
open PySem PySem.Spec L2

/-! ### sorted -/
theorem toDs_map : ∀ us : List T, toDs us = us.map T.toD
  | [] => rfl
  | u :: us => congrArg (u.toD :: ·) (toDs_map us)
theorem allAlike_toD {us : List T} (h : allAlike us = true) : PySem.W.AllAlike (toDs us) := by
  rw [toDs_map]
  intro d hd d' hd'
  obtain ⟨u, hu, rfl⟩ := List.mem_map.mp hd
  obtain ⟨u', hu', rfl⟩ := List.mem_map.mp hd'
  unfold allAlike at h
  exact alike_toD (List.all_eq_true.1 (List.all_eq_true.1 h u hu) u' hu')
theorem sortable_toD {us : List T} (h : sortableT us = true) : PySem.W.Sortable (toDs us) := by
  rw [toDs_map]
  unfold sortableT at h
  rcases Bool.or_eq_true_iff.1 h with h | h
  · refine .inl fun d hd => ?_
    obtain ⟨u, hu, rfl⟩ := List.mem_map.mp hd
    have := List.all_eq_true.1 h u hu
    cases u <;> first | (cases this; done) | skip
    rename_i xs
    cases xs with
    | nil => cases this
    | cons x xs => exact ⟨_, _, rfl⟩
  · refine .inr fun d hd => ?_
    obtain ⟨u, hu, rfl⟩ := List.mem_map.mp hd
    have := List.all_eq_true.1 h u hu
    cases u <;> first | (cases this; done) | (exact ⟨(fun z => nomatch z), (fun _ z => nomatch z)⟩)
mutual
theorem depth_toD : ∀ {t : T}, t.isdat = true → t.toD.depth = t.depth
  | .non, _ => rfl
  | .bl _, _ => rfl
  | .int _, _ => rfl
  | .str _, _ => rfl
  | .lst xs, h => by
    show PyData.depthAll (toDs xs) + 1 = depths xs + 1
    rw [depths_toD h]
  | .tup xs, h => by
    show PyData.depthAll (toDs xs) + 1 = depths xs + 1
    rw [depths_toD h]
theorem depths_toD : ∀ {xs : List T}, isdats xs = true → PyData.depthAll (toDs xs) = depths xs
  | [], _ => rfl
  | x :: xs, h => by
    have h : (x.isdat && isdats xs) = true := h
    rw [Bool.and_eq_true] at h
    show max x.toD.depth (PyData.depthAll (toDs xs)) = max x.depth (depths xs)
    rw [depth_toD h.1, depths_toD h.2]
end
theorem reps_dps {G : Gb} {F : Fz} {H : Hp} {K : PySem.W.Frag} : ∀ {vs : List V} {us : List T}, isdats us = true → Reps G F H vs us → ∀ p ∈ us.zip vs, Dp K H p.2 p.1.toD
  | _, _, _, .nil, p, hp => nomatch hp
  | v :: vs, u :: us, h, .cons r rs, p, hp => by
    have h : (u.isdat && isdats us) = true := h
    rw [Bool.and_eq_true] at h
    rcases List.mem_cons.mp (show p ∈ (u, v) :: us.zip vs from hp) with e | e
    · subst e; exact r.dp h.1
    · exact reps_dps h.2 rs p e
theorem reps_zip {G : Gb} {F : Fz} {H : Hp} : ∀ {vs : List V} {us : List T}, Reps G F H vs us → ∀ p ∈ us.zip vs, Rep G F H p.2 p.1
  | _, _, .nil, p, hp => nomatch hp
  | v :: vs, u :: us, .cons r rs, p, hp => by
    rcases List.mem_cons.mp (show p ∈ (u, v) :: us.zip vs from hp) with e | e
    · subst e; exact r
    · exact reps_zip rs p e
theorem reps_unzip {G : Gb} {F : Fz} {H : Hp} : ∀ (ps : List (T × V)), (∀ p ∈ ps, Rep G F H p.2 p.1) → Reps G F H (ps.map (·.2)) (ps.map (·.1))
  | [], _ => .nil
  | p :: ps, h => .cons (h p List.mem_cons_self) (reps_unzip ps fun q hq => h q (List.mem_cons_of_mem _ hq))
theorem vals_each : ∀ {vs : List V} {its : List Value} {us : List T}, us.length = vs.length → Vals vs its → PySem.W.EachIs (fun (u : Value) (p : T × V) => RelV p.2 u) its (us.zip vs)
  | _, _, [], _, .nil => .nil
  | _, _, _ :: _, h, .nil => nomatch h
  | _, _, [], h, .cons _ _ => nomatch h
  | _, _, u :: us, h, .cons r rs => .cons r (vals_each (Nat.succ.inj h) rs)
theorem each_vals : ∀ {its : List Value} {ps : List (T × V)}, PySem.W.EachIs (fun (u : Value) (p : T × V) => RelV p.2 u) its ps → Vals (ps.map (·.2)) its
  | _, _, .nil => .nil
  | _, _, .cons r rs => .cons r (each_vals rs)
theorem each_mem {α β : Type} {R R' : α → β → Prop} : ∀ {as : List α} {bs : List β}, PySem.W.EachIs R as bs → (∀ a b, b ∈ bs → R a b → R' a b) → PySem.W.EachIs R' as bs
  | _, _, .nil, _ => .nil
  | _, _, .cons r rs, h => .cons (h _ _ List.mem_cons_self r) (each_mem rs fun a b hb => h a b (List.mem_cons_of_mem _ hb))
def leP (p q : T × V) : Bool := leT p.1 q.1
def okSort (us : List T) : Bool := isdats us && (allAlike us && (sortableT us && (Nat.ble (depths us) 60 && Nat.ble us.length LINE)))
def rSrt (K : PySem.W.Frag) : List V → Hp → VK → Prop := fun vs H Q => ∃ (a : Addr) (xs : List V) (us : List T), vs = [.ref a] ∧ SqL K H a xs ∧ us.length = xs.length ∧ (∀ p ∈ us.zip xs, Dp K H p.2 p.1.toD) ∧ okSort us = true ∧
  ∀ p, H p = none → Q (.ref p) (upd H p (.lst (((us.zip xs).mergeSort leP).map (·.2))))
theorem depths_le {us : List T} : ∀ u ∈ us, u.depth ≤ depths us := by
  induction us with
  | nil => intro u h; cases h
  | cons x xs ih =>
    intro u h
    show _ ≤ max x.depth (depths xs)
    rcases List.mem_cons.mp h with e | e
    · rw [e]; omega
    · have := ih u e; omega
theorem isdats_mem {us : List T} (h : isdats us = true) : ∀ u ∈ us, u.isdat = true := by
  induction us with
  | nil => intro u h; cases h
  | cons x xs ih =>
    have h : (x.isdat && isdats xs) = true := h
    rw [Bool.and_eq_true] at h
    intro u hu
    rcases List.mem_cons.mp hu with e | e
    · rw [e]; exact h.1
    · exact ih h.2 u e
theorem cr_srt {X : Cx} (hu : X.A.units + 65 < cLine) : CallR X (.builtin "sorted") (rSrt X.K) := by
  intro pins s σ H vs us Q I r h
  obtain ⟨a, xs, ts, rfl, hs, hlen, hdp, hok, q⟩ := h
  obtain ⟨its, rv, hl, hz⟩ := I.list hs
  rw [Vals.ref1 r]
  unfold okSort at hok
  simp only [Bool.and_eq_true] at hok
  obtain ⟨k1, k2, k3, k4, k5⟩ := hok
  have e := vals_each hlen rv
  have hmap : (ts.zip xs).map (fun p => p.1.toD) = toDs ts := by
    rw [toDs_map]
    show (ts.zip xs).map (T.toD ∘ fun p : T × V => p.1) = _
    rw [← List.map_map, show (ts.zip xs).map (fun p => p.1) = ts from List.map_fst_zip (by omega)]
  have hzl : (ts.zip xs).length ≤ sizeLine := by
    rw [List.length_zip]
    omega
  refine PySem.W.sorted_data (enc := fun p : T × V => p.1.toD) (bs := ts.zip xs) hl.isList e (each_mem e fun u p hp r => Dp.reads I _ _ _ (hdp p hp) r) (by rw [hmap]; exact allAlike_toD k2) (by rw [hmap]; exact sortable_toD k3) hzl (fun p hp => ?_) fun out ho hE => ?_
  · have hm : p.1 ∈ ts := (List.of_mem_zip hp).1
    rw [depth_toD (isdats_mem k1 _ hm)]
    have := depths_le _ hm
    have := Nat.le_of_ble_eq_true k4
    omega
  · obtain ⟨ep, he'⟩ := PyProof.Rows.sortedAll_at s.heap its out.toArray
    have hV : Vals (((ts.zip xs).mergeSort leP).map (·.2)) out := each_vals hE
    have hL : (((ts.zip xs).mergeSort leP).map (·.2)).length ≤ sizeLine := by rw [List.length_map, List.length_mergeSort]; exact hzl
    exact ⟨.ref _, upd H (s.heap.objs.size + 1) (.lst (((ts.zip xs).mergeSort leP).map (·.2))), I.laid (t' := s.toks) (fun _ _ => PyProof.Rows.sortedAll_old) (Nat.le_succ _) ⟨hL, out, ep, hV, he'⟩, rfl, q _ (I.hok.fresh (Nat.le_succ _))⟩
/-! sorted of a dict: its keys -/
def keyPs (kvs : List (Key × V)) : List (T × V) := kvs.map fun p => (keyT p.1, kV p.1)
def rSrtD : List V → Hp → VK → Prop := fun vs H Q => ∃ (a : Addr) (kvs : List (Key × V)), vs = [.ref a] ∧ H a = some (.dK kvs) ∧ okSort (kvs.map fun p => keyT p.1) = true ∧
  ∀ p, H p = none → Q (.ref p) (upd H p (.lst (((keyPs kvs).mergeSort leP).map (·.2))))
theorem key_reads {k : Key} {v : Value} {h : Heap} (r : RelV (kV k) v) : Reads h v (keyT k).toD [] := by
  cases k with
  | inl i =>
    obtain ⟨t, rfl⟩ := (show ∃ t, v = .int i t from r)
    exact .int i t
  | inr x =>
    obtain ⟨t, rfl⟩ := (show ∃ t, v = .str x t from r)
    exact .str x t
theorem keys_each {h : Heap} : ∀ {kvs : List (Key × V)} {its : List Value}, Vals (kvs.map fun p => kV p.1) its → PySem.W.EachIs (fun (u : Value) (p : T × V) => RelV p.2 u ∧ Reads h u p.1.toD []) its (keyPs kvs)
  | [], [], .nil => .nil
  | [], _ :: _, r => nomatch r
  | _ :: _, [], r => nomatch r
  | p :: kvs, u :: its, .cons r rs => .cons ⟨r, key_reads r⟩ (keys_each rs)
theorem cr_srtD {X : Cx} (hc : X.calm = true) (hu : X.A.units + 65 < cLine) : CallR X (.builtin "sorted") rSrtD := by
  intro pins s σ H vs us Q I r q
  obtain ⟨a, kvs, rfl, hd, hok, q⟩ := q
  rw [Vals.ref1 r]
  obtain ⟨z, lo, ws, rel, dd⟩ := dk_rd I.hok (.inl hd)
  obtain ⟨ep, hat⟩ := dd.dictAt
  unfold okSort at hok
  simp only [Bool.and_eq_true] at hok
  obtain ⟨k1, k2, k3, k4, k5⟩ := hok
  have ek : (kvs.map fun kv => kV kv.1) = ws.map fun p => kV p.1 := by
    have e := congrArg (List.map kV) rel.keys
    rw [List.map_map, List.map_map] at e
    exact e
  have hz : ws.length ≤ sizeLine := by rw [← rel.length]; exact z
  refine Calls.call_function_entry PyProof.Rows.kind_sorted PyProof.Rows.plain_sorted PyProof.Rows.entry_sorted (PyProof.Rows.args_sorted1 _) ?_
  unfold Builtin.«sorted»
  refine wpAny_bind (m := checkCount "sorted" 1 1 _) (wpAny_pure ?_)
  refine wpAny_bind (PySem.W.kdu_collect (A := X.A.in1) (PySem.W.kdl_dict (knd := mixKind X.prog X.w) (kvs := ws) (ep := ep) lo) (I.ok.hd hc) hat hz fun h' tk acc hk hacc => ?_)
  have hv : Vals (kvs.map fun p => kV p.1) acc.toList := by
    rw [ek]
    exact keys_at (by rw [Array.length_toList]; exact hacc.1) fun j v e => hacc.2 j v (by rw [← Array.getElem?_toList]; exact e)
  have hal : acc.toList.length = kvs.length := by rw [← hv.length, List.length_map]
  have I1 : Inv X pins σ H { s with heap := h', toks := tk } := I.kept hk
  refine wpAny_bind (wpAny_newList ?_ (by rw [hal]; exact z))
  have hoL : (h'.push (PyProof.Rows.seqObj "list" acc.toList.toArray 0)).get? h'.objs.size = some (PyProof.Rows.seqObj "list" acc.toList.toArray 0) := Heap.get?_push_size _ rfl
  show wpAny _ _ _ _ _ { s with heap := h'.push (PyProof.Rows.seqObj "list" acc.toList.toArray 0), toks := tk }
  have hmap : (keyPs kvs).map (fun p => p.1.toD) = toDs (kvs.map fun p => keyT p.1) := by
    rw [toDs_map]
    unfold keyPs
    rw [List.map_map, List.map_map]
    rfl
  have hpl : (keyPs kvs).length = kvs.length := by unfold keyPs; rw [List.length_map]
  have eall := keys_each (h := h'.push (PyProof.Rows.seqObj "list" acc.toList.toArray 0)) hv
  refine wpAny_bind (wpAny_holding (PySem.W.list_sort_data (s := { s with heap := h'.push (PyProof.Rows.seqObj "list" acc.toList.toArray 0), toks := tk }) (R := fun (u : Value) (p : T × V) => RelV p.2 u) (enc := fun p : T × V => p.1.toD) (bs := keyPs kvs) hoL (eall.mono fun _ _ r => r.1) (eall.mono fun _ _ r => ⟨[], r.2, fun k => nomatch k⟩)
    (by rw [hmap]; exact allAlike_toD k2) (by rw [hmap]; exact sortable_toD k3) (by rw [hpl]; exact z) (fun p hp => ?_) fun out ho eo => ?_))
  · have hm : p.1 ∈ kvs.map fun p => keyT p.1 := by
      unfold keyPs at hp
      obtain ⟨q, hq, rfl⟩ := List.mem_map.1 hp
      exact List.mem_map.2 ⟨q, hq, rfl⟩
    have hd0 : p.1.depth = 0 := by
      obtain ⟨q, _, e⟩ := List.mem_map.1 hm
      rw [← e]
      obtain ⟨k, _⟩ := q
      cases k <;> rfl
    rw [depth_toD (isdats_mem k1 _ hm), hd0]
    show X.A.units + 1 + 1 + 0 < cLine
    omega
  · obtain ⟨e', he'⟩ := PyProof.Rows.sortedHeap_at (vs := acc.toList) (out := out.toArray) hoL
    have hV : Vals (((keyPs kvs).mergeSort leP).map (·.2)) out := each_vals eo
    have hL : (((keyPs kvs).mergeSort leP).map (·.2)).length ≤ sizeLine := by rw [List.length_map, List.length_mergeSort, hpl]; exact z
    refine wpAny_pure ⟨_, rfl, .ref h'.objs.size, upd H h'.objs.size (.lst (((keyPs kvs).mergeSort leP).map (·.2))), I1.laid (t' := tk) (fun b u e => ?_) (Nat.le_refl _)
      (show ObjOk X.prog X.w _ _ _ (.lst (((keyPs kvs).mergeSort leP).map (·.2))) from ⟨hL, out, e', hV, he'⟩), rfl, q _ (I1.hok.fresh (Nat.le_refl _))⟩
    have hb : b < h'.objs.size := Heap.lt_size e
    rw [PyProof.Rows.sortedHeap_old (Nat.ne_of_lt hb) (by rw [PyProof.Rows.size_push']; exact Nat.lt_succ_of_lt hb)]
    exact Heap.get?_push_of_some _ e
def rSrtA (K : PySem.W.Frag) : List V → Hp → VK → Prop := fun vs H Q => rSrt K vs H Q ∨ rSrtD vs H Q
theorem cr_srtA {X : Cx} (hc : X.calm = true) (hu : X.A.units + 65 < cLine) : CallR X (.builtin "sorted") (rSrtA X.K) := (cr_srt hu).or (cr_srtD hc hu)
theorem map_sort (ps : List (T × V)) : (ps.mergeSort leP).map (·.1) = sortT (ps.map (·.1)) := by
  rw [sortT_eq]
  exact List.map_mergeSort (r := leP) (s := leT) (f := (·.1)) fun a _ b _ => rfl
theorem nomuts_all : ∀ xs : List T, nomuts xs = xs.all T.nomut
  | [] => rfl
  | x :: xs => by show (x.nomut && nomuts xs) = (x.nomut && xs.all T.nomut); rw [nomuts_all xs]
theorem nomuts_perm {xs ys : List T} (h : xs.Perm ys) : nomuts xs = nomuts ys := by
  rw [nomuts_all, nomuts_all]
  exact h.all_eq
theorem bi_sorted {rp : T → Str} (K : PySem.W.Frag) : BiOk rp .sorted (rSrtA K) := by
  intro G F H n us vs Q W ok s r h
  match us, h with
  | [t], h =>
    obtain ⟨v, rfl, r1⟩ := reps1 r
    cases r1 with
    | @lst a vs us f e q1 =>
      have h : Sat (EQ G F H Q) (ES G F H W) (if okSort us = true then R.ok ⟨.lst (sortT us), lvl us⟩ else R.stuck) n := h
      obtain ⟨hok, h⟩ := sat_iteB h
      have hd : isdats us = true := by
        unfold okSort at hok
        rw [Bool.and_eq_true] at hok
        exact hok.1
      refine .inl ⟨a, vs, us, rfl, SqL.of e, q1.length.symm, reps_dps hd q1, hok, fun p hp => ?_⟩
      have q2 : Reps G F H (((us.zip vs).mergeSort leP).map (·.2)) (((us.zip vs).mergeSort leP).map (·.1)) := reps_unzip _ fun p hp => reps_zip q1 p ((List.mem_mergeSort).1 hp)
      rw [map_sort, show (us.zip vs).map (·.1) = us from List.map_fst_zip (by rw [q1.length]; omega)] at q2
      have hl : lvl us = lvl (sortT us) := by
        unfold lvl
        have : nomuts (sortT us) = nomuts us := by rw [sortT_eq]; exact nomuts_perm (List.mergeSort_perm us leT)
        rw [this]
      rw [hl] at h
      exact fin_lst h ok s q2 p hp
    | @dct a kvs us f e q1 =>
      have h : Sat (EQ G F H Q) (ES G F H W) (if okSort (kvs.map fun p => keyT p.1) = true then R.ok ⟨.lst (sortT (kvs.map fun p => keyT p.1)), lvl (kvs.map fun p => keyT p.1)⟩ else R.stuck) n := h
      obtain ⟨hok, h⟩ := sat_iteB h
      refine .inr ⟨a, kvs, rfl, e, hok, fun p hp => ?_⟩
      have q2 : Reps G F H (((keyPs kvs).mergeSort leP).map (·.2)) (((keyPs kvs).mergeSort leP).map (·.1)) := reps_unzip _ fun p hp => by
        have hp := (List.mem_mergeSort).1 hp
        unfold keyPs at hp
        obtain ⟨q, _, rfl⟩ := List.mem_map.1 hp
        exact rep_key _
      have ek : (keyPs kvs).map (·.1) = kvs.map fun p => keyT p.1 := by
        unfold keyPs
        rw [List.map_map]
        rfl
      rw [map_sort, ek] at q2
      have hl : lvl (kvs.map fun p => keyT p.1) = lvl (sortT (kvs.map fun p => keyT p.1)) := by
        unfold lvl
        have : nomuts (sortT (kvs.map fun p => keyT p.1)) = nomuts (kvs.map fun p => keyT p.1) := by rw [sortT_eq]; exact nomuts_perm (List.mergeSort_perm _ leT)
        rw [this]
      rw [hl] at h
      exact fin_lst h ok s q2 p hp
    | _ => exact h.elim
  | [], h => exact h.elim
  | x :: y :: z, h => exact (by cases x <;> exact h.elim)
/-! ### min of a list of tuples of data -/
mutual
theorem toD_inj : ∀ {a b : T}, a.isdat = true → b.isdat = true → a.toD = b.toD → a = b
  | .non, b, _, hb, h => by cases b <;> first | rfl | (cases hb; done) | (cases h; done)
  | .bl _, b, _, hb, h => by cases b <;> first | (cases h; rfl) | cases h | cases hb
  | .int _, b, _, hb, h => by cases b <;> first | (cases h; rfl) | cases h | cases hb
  | .str _, b, _, hb, h => by cases b <;> first | (cases h; rfl) | cases h | cases hb
  | .tok _, b, ha, _, _ => nomatch ha
  | .dct _ _, b, ha, _, _ => nomatch ha
  | .lst xs, b, ha, hb, h => by
    cases b with
    | lst ys => rw [toDs_inj (xs := xs) (ys := ys) ha hb (PyData.list.inj h)]
    | _ => first | cases h | cases hb
  | .tup xs, b, ha, hb, h => by
    cases b with
    | tup ys => rw [toDs_inj (xs := xs) (ys := ys) ha hb (PyData.tuple.inj h)]
    | _ => first | cases h | cases hb
theorem toDs_inj : ∀ {xs ys : List T}, isdats xs = true → isdats ys = true → toDs xs = toDs ys → xs = ys
  | [], [], _, _, _ => rfl
  | [], _ :: _, _, _, h => nomatch h
  | _ :: _, [], _, _, h => nomatch h
  | x :: xs, y :: ys, ha, hb, h => by
    have ha : (x.isdat && isdats xs) = true := ha
    have hb : (y.isdat && isdats ys) = true := hb
    rw [Bool.and_eq_true] at ha hb
    have h : x.toD :: toDs xs = y.toD :: toDs ys := h
    injection h with h1 h2
    rw [toD_inj ha.1 hb.1 h1, toDs_inj ha.2 hb.2 h2]
end
theorem minT_toD : ∀ (xs : List T) (x : T), (minT x xs).toD = PySem.W.minD x.toD (toDs xs)
  | [], _ => rfl
  | y :: ys, x => by
    show (minT (if ltT y x then y else x) ys).toD = PySem.W.minD (if PySem.W.dataLt y.toD x.toD then y.toD else x.toD) (toDs ys)
    rw [minT_toD ys]
    show PySem.W.minD (if PySem.W.dataLt y.toD x.toD then y else x).toD _ = _
    split <;> rfl
theorem minT_mem : ∀ (xs : List T) (x : T), minT x xs ∈ x :: xs
  | [], _ => List.mem_cons_self
  | y :: ys, x => by
    have h := minT_mem ys (if ltT y x then y else x)
    show minT (if ltT y x then y else x) ys ∈ x :: y :: ys
    rcases List.mem_cons.1 h with e | e
    · rw [e]
      split
      · exact List.mem_cons_of_mem _ List.mem_cons_self
      · exact List.mem_cons_self
    · exact List.mem_cons_of_mem _ (List.mem_cons_of_mem _ e)
theorem DpAll.get {K : PySem.W.Frag} {H : Hp} : ∀ {vs : List V} {us : List T} {i : Nat} {v : V}, DpAll K H vs (toDs us) → vs[i]? = some v → ∃ t, us[i]? = some t ∧ Dp K H v t.toD
  | _, [], _, _, h, e => by cases h; cases e
  | _, u :: us, 0, v, h, e => by
    have h : DpAll K H _ (u.toD :: toDs us) := h
    cases h with
    | cons h1 h2 => cases e; exact ⟨u, rfl, h1⟩
  | _, u :: us, i + 1, v, h, e => by
    have h : DpAll K H _ (u.toD :: toDs us) := h
    cases h with
    | cons h1 h2 =>
      obtain ⟨t, a, b⟩ := DpAll.get (i := i) h2 (by simpa using e)
      exact ⟨t, by simpa using a, b⟩
theorem vals_get : ∀ {vs : List V} {its : List Value} {i : Nat} {v : Value}, Vals vs its → its[i]? = some v → ∃ w, vs[i]? = some w ∧ RelV w v
  | _, _, _, _, .nil, e => by simp at e
  | _, _, 0, _, .cons r _, e => by simp at e; subst e; exact ⟨_, rfl, r⟩
  | _, _, i + 1, _, .cons _ rs, e => by
    obtain ⟨w, h1, h2⟩ := vals_get (i := i) rs (by simpa using e)
    exact ⟨w, by simpa using h1, h2⟩
def rMinD (K : PySem.W.Frag) : List V → Hp → VK → Prop := fun vs H Q => ∃ (a : Addr) (xs : List V) (u : T) (us : List T), vs = [.ref a] ∧ SqL K H a xs ∧ DpAll K H xs (toDs (u :: us)) ∧ okMin (u :: us) = true ∧
  ∀ (i : Nat) (w : V), xs[i]? = some w → (u :: us)[i]? = some (minT u us) → Q w H
theorem cr_minD {X : Cx} (hc : X.calm = true) (hu : X.A.units + 65 < cLine) : CallR X (.builtin "min") (rMinD X.K) := by
  intro pins s σ H vs us Q I r h
  obtain ⟨a, xs, t, ts, rfl, hs, hdp, hok, q⟩ := h
  obtain ⟨its, rv, hl, hz⟩ := I.list hs
  rw [Vals.ref1 r]
  unfold okMin at hok
  simp only [Bool.and_eq_true] at hok
  obtain ⟨k1, k2, k3, k4⟩ := hok
  obtain ⟨as, hr⟩ := Dp.readsAll I _ _ _ hdp rv
  have ha : PySem.W.AlikeAll (t.toD :: toDs ts) := by
    refine ⟨fun x hx y hy => allAlike_toD k2 x hx y hy, fun x hx => ?_⟩
    have hx : x ∈ toDs (t :: ts) := hx
    rw [toDs_map] at hx
    obtain ⟨z, hz, rfl⟩ := List.mem_map.1 hx
    have := List.all_eq_true.1 k3 z hz
    cases z <;> first | (cases this; done) | (exact fun z => nomatch z)
  have hd : PyData.depthAll (t.toD :: toDs ts) = depths (t :: ts) := depths_toD (xs := t :: ts) k1
  have hd2 := Nat.le_of_ble_eq_true k4
  refine PySem.W.min_list_data (vs := its.toArray) (x := t.toD) (xs := toDs ts) (I.ok.hd hc) hl.isList (by rw [List.toList_toArray]; exact hr) ha (by rw [hd]; omega) fun i v h' tk bs hv hrd hk => ?_
  have hv : its[i]? = some v := by simpa using hv
  obtain ⟨w, hw, rw'⟩ := vals_get rv hv
  obtain ⟨z, hz, hdz⟩ := DpAll.get (us := t :: ts) hdp hw
  obtain ⟨as', rz⟩ := Dp.reads I _ _ _ hdz rw'
  have hzm : z ∈ t :: ts := List.mem_of_getElem? hz
  have hzd : z.isdat = true := isdats_mem k1 _ hzm
  have e := PySem.SeqAt.Reads.unique _ _ _ _ _ (canLay_of hzd) (PySem.W.reads_keeps hk rz) hrd
  rw [← minT_toD] at e
  have e := toD_inj hzd (isdats_mem k1 _ (minT_mem ts t)) e
  exact ⟨w, H, I.kept (t' := tk) hk, rw', q i w hw (by rw [hz, e])⟩
theorem bi_mind {rp : T → Str} (K : PySem.W.Frag) : BiOk rp .mind (rMinD K) := by
  intro G F H n us vs Q W ok s r h
  match us, h with
  | [t], h =>
    obtain ⟨v, rfl, r1⟩ := reps1 r
    cases r1 with
    | @lst a vs us f e q1 =>
      cases us with
      | nil => exact h.elim
      | cons u us =>
        have h : Sat (EQ G F H Q) (ES G F H W) (if okMin (u :: us) = true then R.ok (minT u us).rd else R.stuck) n := h
        obtain ⟨hok, h⟩ := sat_iteB h
        have hd : isdats (u :: us) = true := by
          unfold okMin at hok
          rw [Bool.and_eq_true] at hok
          exact hok.1
        refine ⟨a, vs, u, us, rfl, SqL.of e, Reps.dp hd q1, hok, fun i w hw ht => ?_⟩
        obtain ⟨w', e1, rw'⟩ := q1.get ht
        rw [hw] at e1
        cases e1
        exact fin_rd h ok s rw'
    | _ => exact h.elim
  | [], h => exact h.elim
  | x :: y :: z, h =>
    cases x with
    | lst xs => cases xs <;> exact h.elim
    | _ => exact h.elim
end TM

set_option Elab.async false
set_option linter.all false
set_option maxRecDepth 100000
set_option maxHeartbeats 4000000
namespace TM
open PySem PySem.Spec L2

/-! ### dicts: made, written to, out of pairs -/
theorem keyT_eq (a b : Key) : (keyT a).eqB (keyT b) = decide (a = b) := by
  cases a with
  | inl i =>
    cases b with
    | inl j =>
      show (i == j) = _
      by_cases h : i = j
      · subst h; simp
      · have : (Sum.inl i : Key) ≠ .inl j := fun e => h (Sum.inl.inj e)
        rw [decide_eq_false this]
        exact beq_eq_false_iff_ne.2 h
    | inr y => exact (decide_eq_false (fun e => by cases e)).symm
  | inr x =>
    cases b with
    | inl j => exact (decide_eq_false (fun e => by cases e)).symm
    | inr y =>
      show decide (x = y) = _
      by_cases h : x = y
      · subst h; rw [decide_eq_true rfl, decide_eq_true rfl]
      · have : (Sum.inr x : Key) ≠ .inr y := fun e => h (Sum.inr.inj e)
        rw [decide_eq_false this, decide_eq_false h]
theorem any_keys (k : Key) : ∀ kvs : List (Key × V), (kvs.map fun p => keyT p.1).any (fun q => q.eqB (keyT k)) = kvs.any fun kv => decide (kv.1 = k)
  | [] => rfl
  | p :: kvs => by
    rw [List.map_cons, List.any_cons, List.any_cons, any_keys k kvs, keyT_eq]
abbrev keysT (kvs : List (Key × V)) : List T := kvs.map fun p => keyT p.1
theorem putK_keys (k : Key) (y : V) (t : T) (kvs : List (Key × V)) (us : List T) : keysT (putK kvs k y) = (putT (keyT k) t (keysT kvs) us).1 := by
  unfold putK putT
  rw [any_keys]
  cases h : (kvs.any fun kv => decide (kv.1 = k))
  · rw [if_neg (by decide), if_neg (by decide)]
    show List.map _ (kvs ++ [(k, y)]) = _
    rw [List.map_append]
    rfl
  · rw [if_pos rfl, if_pos rfl]
    show (kvs.map _).map _ = _
    rw [List.map_map]
    refine List.map_congr_left fun p _ => ?_
    show keyT (if p.1 = k then (p.1, y) else p).1 = keyT p.1
    split <;> rfl
section
variable {G : Gb} {F : Fz} {H : Hp}
theorem repl_reps {y : V} {t : T} {k : Key} (ry : Rep G F H y t) : ∀ {kvs : List (Key × V)} {us : List T}, Reps G F H (kvs.map (·.2)) us → Reps G F H ((kvs.map fun kv => if kv.1 = k then (kv.1, y) else kv).map (·.2)) (replT (keyT k) t (keysT kvs) us)
  | [], [], .nil => .nil
  | [], _ :: _, r => nomatch r
  | _ :: _, [], r => nomatch r
  | p :: kvs, u :: us, .cons r rs => by
    show Reps G F H ((if p.1 = k then (p.1, y) else p).2 :: _) ((if (keyT p.1).eqB (keyT k) then t else u) :: _)
    rw [keyT_eq]
    by_cases h : p.1 = k
    · rw [if_pos h, if_pos (decide_eq_true h)]
      exact .cons ry (repl_reps ry rs)
    · rw [if_neg h, if_neg (by rw [decide_eq_false h]; decide)]
      exact .cons r (repl_reps ry rs)
theorem put_reps {y : V} {t : T} {k : Key} (ry : Rep G F H y t) {kvs : List (Key × V)} {us : List T} (r : Reps G F H (kvs.map (·.2)) us) : Reps G F H ((putK kvs k y).map (·.2)) (putT (keyT k) t (keysT kvs) us).2 := by
  unfold putK putT
  rw [any_keys]
  cases h : (kvs.any fun kv => decide (kv.1 = k))
  · rw [if_neg (by decide), if_neg (by decide), List.map_append]
    exact r.append (.cons ry .nil)
  · rw [if_pos rfl, if_pos rfl]
    exact repl_reps ry r
theorem repl_repds {y : V} {t : T} {k : Key} (ry : RepD G F H y t []) : ∀ {kvs : List (Key × V)} {us : List T} {fp : List Addr}, RepDs G F H (kvs.map (·.2)) us fp → fp.Nodup → ∃ fpn, RepDs G F H ((kvs.map fun kv => if kv.1 = k then (kv.1, y) else kv).map (·.2)) (replT (keyT k) t (keysT kvs) us) fpn ∧ (∀ c ∈ fpn, c ∈ fp) ∧ fpn.Nodup
  | [], [], _, .nil, nd => ⟨[], .nil, fun _ h => h, nd⟩
  | [], _ :: _, _, r, _ => nomatch r
  | _ :: _, [], _, r, _ => nomatch r
  | p :: kvs, u :: us, _, .cons (fp := f1) (fp' := f2) r rs, nd => by
    obtain ⟨fpn, h1, h2, h3⟩ := repl_repds (k := k) ry rs (List.nodup_append.mp nd).2.1
    show ∃ fpn, RepDs G F H ((if p.1 = k then (p.1, y) else p).2 :: _) ((if (keyT p.1).eqB (keyT k) then t else u) :: _) fpn ∧ _
    rw [keyT_eq]
    by_cases h : p.1 = k
    · rw [if_pos h, if_pos (decide_eq_true h)]
      exact ⟨[] ++ fpn, .cons ry h1, fun c hc => List.mem_append_right _ (h2 c hc), h3⟩
    · rw [if_neg h, if_neg (by rw [decide_eq_false h]; decide)]
      exact ⟨f1 ++ fpn, .cons r h1, fun c hc => (List.mem_append.mp hc).elim (fun k => List.mem_append_left _ k) fun k => List.mem_append_right _ (h2 c k),
        nodup_app (List.nodup_append.mp nd).1 h3 fun c hc k => (List.nodup_append.mp nd).2.2 c hc c (h2 c k) rfl⟩
theorem put_repds {y : V} {t : T} {k : Key} (ry : RepD G F H y t []) {kvs : List (Key × V)} {us : List T} {fp : List Addr} (r : RepDs G F H (kvs.map (·.2)) us fp) (nd : fp.Nodup) : ∃ fpn, RepDs G F H ((putK kvs k y).map (·.2)) (putT (keyT k) t (keysT kvs) us).2 fpn ∧ (∀ c ∈ fpn, c ∈ fp) ∧ fpn.Nodup := by
  unfold putK putT
  rw [any_keys]
  cases h : (kvs.any fun kv => decide (kv.1 = k))
  · rw [if_neg (by decide), if_neg (by decide), List.map_append]
    have rr := r.app (RepDs.cons ry .nil)
    rw [List.append_nil, List.append_nil] at rr
    exact ⟨fp, rr, fun _ h => h, nd⟩
  · rw [if_pos rfl, if_pos rfl]
    exact repl_repds ry r nd
theorem keyOf {v : V} {t : T} (r : Rep G F H v t) (h : flatT t = true) : ∃ k, v = kV k ∧ t = keyT k := by
  cases r with
  | int i => exact ⟨.inl i, rfl, rfl⟩
  | str x => exact ⟨.inr x, rfl, rfl⟩
  | _ => cases h
end
section
variable {X : Cx} {rp : T → Str} {call : Nat → List T → R Val} {W : XW} {G : Gb} {F0 F F1 F2 F3 : Fz} {H0 H H1 : Hp} {b0 b b1 : Nat} {σ : St} {τ : TM.Env} {Q : VK} {fps : Fps} {D : Ends} {pos p p2 : Pos} {e ec : Expr} {A C : E} {fz : List Nat} {v : V} {fp : List Addr} {i : Nat}
theorem repV_ownD {ks us : List T} {l : Nat} (h2 : l < 2) (r : RepV G F H v ⟨.dct ks us, l + 1⟩ fp) : ∃ a kvs fp0, v = .ref a ∧ H a = some (.dK kvs) ∧ ks = keysT kvs ∧ fp = a :: fp0 ∧ ((l = 0 ∧ fp0 = [] ∧ Reps G F H (kvs.map (·.2)) us) ∨ (l = 1 ∧ RepDs G F H (kvs.map (·.2)) us fp0)) := by
  match l, r with
  | 0, r =>
    obtain ⟨a, rfl, rfl, h⟩ := r
    rcases h with ⟨vs, us, q, _, _⟩ | ⟨kvs, us, q, e, r⟩
    · cases q
    · cases q; exact ⟨a, kvs, [], rfl, e, rfl, rfl, .inl ⟨rfl, rfl, r⟩⟩
  | 1, r =>
    have r1 : RepD G F H v (.dct ks us) fp := r
    cases r1 with
    | sh n _ => cases n
    | dct e r2 => exact ⟨_, _, _, rfl, e, rfl, rfl, .inr ⟨rfl, r2⟩⟩
  | n + 2, r => omega
theorem dctAt_get (h : dctAt τ i = true) : ∃ ks us l, τ[i]? = some (some ⟨.dct ks us, l⟩) := by
  unfold dctAt at h
  split at h
  · exact ⟨_, _, _, ‹_›⟩
  · cases h
/-- behind the evaluation the i-th name owns a dict; what comes of it when a pair is put -/
theorem growD (s0 : SInv G b0 H0) {l : Nat} (hl2 : l < 2) (S2 : SR G F0 H0 F H σ τ b fps) {ks us : List T} (e : τ[i]? = some (some ⟨.dct ks us, l + 1⟩)) (hv : σ[i]? = some (some v)) (ft : Fit H0 F fps fp) (tf : ∀ c ∈ fp, ∃ o, H c = some o) {k : Key} {y : V} {t : T}
    (hfull : t.nomut = true → RepD G F H y t []) (hsh : ∀ (F3 : Fz), (∀ c, F c → F3 c) → (∀ c ∈ fp, F3 c) → Rep G F3 H y t) :
    ∃ a kvs, v = .ref a ∧ H a = some (.dK kvs) ∧ ks = keysT kvs ∧ ∃ F3 fps3, SR G F0 H0 F3 (upd H a (.dK (putK kvs k y))) σ (τ.set i (some ⟨.dct (putT (keyT k) t ks us).1 (putT (keyT k) t ks us).2, if l = 1 ∧ t.nomut = true then 2 else 1⟩)) b fps3 ∧ Lift G F F3 H (upd H a (.dK (putK kvs k y))) := by
  obtain ⟨v', hv', r⟩ := S2.vw i _ e
  rw [hv] at hv'
  cases hv'
  obtain ⟨a, kvs, fp0, rfl, ha, rfl, hfp, hr⟩ := repV_ownD hl2 r
  have hi : i < τ.length := (List.getElem?_eq_some_iff.mp e).1
  have am : a ∈ fps i := by rw [hfp]; exact List.mem_cons_self
  have nd := (S2.own i).1
  rw [hfp] at nd
  have na0 : a ∉ fp0 := (List.nodup_cons.mp nd).1
  have naf : a ∉ fp := fun k => ft.dis a k i am
  refine ⟨a, kvs, rfl, ha, rfl, ?_⟩
  rw [← putK_keys k y t kvs us]
  by_cases hfl : l = 1 ∧ t.nomut = true
  · rw [if_pos hfl]
    rcases hr with ⟨hl, _⟩ | ⟨_, r⟩
    · omega
    · obtain ⟨fpn, rn, sn, ndn⟩ := put_repds (k := k) (hfull hfl.2) r (List.nodup_cons.mp nd).2
      have nan : a ∉ fpn := fun k => na0 (sn a k)
      obtain ⟨fps3, S3, L3⟩ := S2.mut s0 hi hv am ft tf (o := .dK (putK kvs k y)) (u3 := ⟨.dct (keysT (putK kvs k y)) (putT (keyT k) t (keysT kvs) us).2, 2⟩) (fp3 := a :: fpn) (fun _ => False) (fun _ k => k.elim) (fun c hc => ⟨by
          rcases List.mem_cons.mp hc with rfl | hc
          · exact .inl am
          · exact .inl (by rw [hfp]; exact List.mem_cons_of_mem _ (sn c hc)), fun k => k⟩)
        (List.nodup_cons.mpr ⟨nan, ndn⟩)
        (by
          have Lu : LiftD G F (fun c => F c ∨ False) H (upd H a (.dK (putK kvs k y))) fpn := ⟨⟨fun _ => .inl, (upd_lift (G := G) ((S2.own i).2 a am).2 (fun xs => S2.notup am)).ho⟩, fun c w hc e => by
            rw [upd_ne (fun z : c = a => nan (by rw [← z]; exact hc))]
            exact e⟩
          exact RepD.dct upd_same (rn.lift Lu))
      exact ⟨_, fps3, S3, L3⟩
  · rw [if_neg hfl]
    have rs : Reps G (fun c => F c ∨ (c ∈ fp0 ∨ c ∈ fp)) H (kvs.map (·.2)) us := reps_old hr (F3 := fun c => F c ∨ (c ∈ fp0 ∨ c ∈ fp)) (fun _ => .inl) (fun _ h => .inr (.inl h))
    have ry := hsh (fun c => F c ∨ (c ∈ fp0 ∨ c ∈ fp)) (fun _ => .inl) (fun _ h => .inr (.inr h))
    obtain ⟨fps3, S3, L3⟩ := S2.mut s0 hi hv am ft tf (o := .dK (putK kvs k y)) (u3 := ⟨.dct (keysT (putK kvs k y)) (putT (keyT k) t (keysT kvs) us).2, 1⟩) (fp3 := [a]) (fun c => c ∈ fp0 ∨ c ∈ fp) (fun c hc => by
        rcases hc with hc | hc
        · exact ⟨.inl (by rw [hfp]; exact List.mem_cons_of_mem _ hc), fun z => na0 (by rw [← z]; exact hc)⟩
        · exact ⟨.inr hc, fun z => naf (by rw [← z]; exact hc)⟩) (fun c hc => by
        have e : c = a := by simpa using hc
        subst e
        exact ⟨.inl am, fun k => k.elim na0 naf⟩) (by simp)
      ⟨a, rfl, rfl, .inr ⟨_, _, rfl, upd_same, (put_reps ry rs).lift
        (upd_lift (fun f => f.elim ((S2.own i).2 a am).2 fun k => k.elim na0 naf) (fun xs => S2.notup am))⟩⟩
    exact ⟨_, fps3, S3, L3⟩
theorem ss_stod {x : Str} (hu : X.A.units + 1 < cLine) (hsl : notSlice ec = true) (hN : X.N[i]? = some x) (hvi : Vis X.env.scope x) (hd : (x == ("__debug__" : Str)) = false) (hcd : (x == ("__classdict__" : Str)) = false) (he : SE X rp call W e A) (hk : SE X rp call W ec C)
    (hs : swapsWithSole [.Subscript (.Name x p) ec p2] e pos.line X.env = pure false) (hw : swappedStores [.Subscript (.Name x p) ec p2] e X.env = pure none) :
    SS X rp call W (.Assign [.Subscript (.Name x p) ec p2] e pos) (.stod i C A fz) :=
  PS.imp (ps_asg he (pg_sub (pe_var hN hvi hd hcd) hk (set_dict hu) (by cases ec <;> first | (intro v; rfl) | cases hsl)) hs hw rfl) fun D σ H ⟨G, F0, H0, b0, F, τ, b, fps, s0, f0, S, h⟩ => by
    obtain ⟨hl, h⟩ := sat_iteB (show Sat _ _ (if dctAt τ i = true then _ else R.stuck) b from h)
    obtain ⟨ks0, us0, l0, e0⟩ := dctAt_get hl
    obtain ⟨v0, hv, r0⟩ := S.vw i _ e0
    refine ⟨G, _, hide fz τ, b, S.preH s0 fz, ((sat_bind _ _).1 h).imp (fun u b1 hu y H1 F1 fp st r o => ?_) fun _ _ _ z => z.see s0 S⟩
    refine ⟨v0, hv, ?_⟩
    refine ⟨G, F1, hide fz τ, b1, (S.preH s0 fz).next st, ((sat_bind _ _).1 hu).imp (fun w b2 hw kv H2 F2 fpw st2 rw' ow => ?_) fun _ _ _ z => (z.see s0 S).next (S.preH s0 fz).inv st⟩
    have st12 := st.trans (S.preH s0 fz).inv st2
    have nvf : ∀ a ∈ fp, ¬ vol G a := fun a ha => not_vol_of_none (S.preH s0 fz).inv (o.2 a ha).1
    have r12 := own_lift st.inv st.ok st2 r nvf
    have o12 := own_same st2 o r.there
    obtain ⟨F3, fps3, S3, L, r3, ft, _⟩ := S.afterV s0 st12 r12 o12
    dsimp only at hw
    split at hw
    · rename_i ks us l e1
      obtain ⟨hf, hw⟩ := sat_iteB hw
      rw [Bool.and_eq_true] at hf
      obtain ⟨k, ek, et⟩ := keyOf rw'.share hf.1
      subst ek
      obtain ⟨hl2, hln⟩ := lim_lt (Nat.le_of_ble_eq_true hf.2)
      obtain ⟨a, kvs, ea, ha, hks, F4, fps4, S4, L4⟩ := growD s0 hl2 S3 (k := k) (y := y) (t := u.t) e1 hv ft r3.there (fun q => RepD.any (RepD.sh q r3.share)) (fun F5 h1 h2 => share_to h1 h2 r3)
      refine ⟨a, _, ea, DPut.k (k := k) (v := y) ha ?_, ?_⟩
      · have hl2 := hln
        rw [hks, List.length_map] at hl2
        rw [line_eq]
        exact hl2
      · rw [← et] at S4
        exact hw _ _ _ _ S4 (L.trans L4)
    · exact hw.elim
end
end TM

set_option Elab.async false
set_option linter.all false
set_option maxRecDepth 100000
set_option maxHeartbeats 4000000
namespace TM
open PySem PySem.Spec L2
section
variable {G : Gb} {F : Fz} {H : Hp} {Q : VK} {b : Nat}
theorem fin_dct {us : List T} {kvs : List (Key × V)} (h : EQ G F H Q ⟨.dct (keysT kvs) us, 2⟩ b) (ok : FOk G F H) (s : SInv G b H) (n : nomuts us = true) (r : Reps G F H (kvs.map (·.2)) us) : ∀ p, H p = none → Q (.ref p) (upd H p (.dK kvs)) := fun p hp =>
  h _ _ F [p] (stp_new ok s hp) (RepD.dct upd_same (repDs_of_nomuts n (r.lift ⟨fun _ f => f, fun a o e _ => by rw [upd_ne (ne_of_none e hp)]; exact e⟩))) (own_one ok hp)
theorem nomuts_repl {k t : T} (ht : t.nomut = true) : ∀ {qs us : List T}, nomuts us = true → nomuts (replT k t qs us) = true
  | [], us, h => by
    have e : replT k t [] us = us := by cases us <;> rfl
    rw [e]; exact h
  | _ :: _, [], h => h
  | q :: qs, u :: us, h => by
    have h : (u.nomut && nomuts us) = true := h
    rw [Bool.and_eq_true] at h
    show ((if q.eqB k then t else u).nomut && nomuts (replT k t qs us)) = true
    rw [nomuts_repl ht h.2, Bool.and_true]
    split
    · exact ht
    · exact h.1
theorem nomuts_put {k t : T} (ht : t.nomut = true) {qs us : List T} (h : nomuts us = true) : nomuts (putT k t qs us).2 = true := by
  unfold putT
  split
  · exact nomuts_repl ht h
  · show nomuts (us ++ [t]) = true
    rw [nomuts_all, List.all_append, ← nomuts_all, h]
    show (t.nomut && true) = true
    rw [ht]; rfl
theorem merge_reps : ∀ {kvs acc : List (Key × V)} {ws us : List T}, Reps G F H (kvs.map (·.2)) ws → nomuts ws = true → Reps G F H (acc.map (·.2)) us → nomuts us = true →
    ∃ us', mergeT (keysT kvs) ws (keysT acc, us) = (keysT (mergeK acc kvs), us') ∧ Reps G F H ((mergeK acc kvs).map (·.2)) us' ∧ nomuts us' = true
  | [], acc, [], us, .nil, _, r, n => ⟨us, rfl, r, n⟩
  | [], _, _ :: _, _, r, _, _, _ => nomatch r
  | _ :: _, _, [], _, r, _, _, _ => nomatch r
  | p :: kvs, acc, w :: ws, us, .cons r rs, hn, ra, n => by
    have hn : (w.nomut && nomuts ws) = true := hn
    rw [Bool.and_eq_true] at hn
    have r2 := put_reps (k := p.1) r ra
    obtain ⟨us', h1, h2, h3⟩ := merge_reps (kvs := kvs) (acc := putK acc p.1 p.2) rs hn.2 r2 (nomuts_put hn.1 n)
    refine ⟨us', ?_, h2, h3⟩
    rw [putK_keys p.1 p.2 w acc us] at h1
    exact h1
theorem pairs_reps (K : PySem.W.Frag) : ∀ {vs : List V} {us : List T} {ks ws : List T}, Reps G F H vs us → pairsT us = .ok (ks, ws) → ks.all flatT = true →
    ∃ (ps : List Addr) (kvs : List (Key × V)), vs = ps.map V.ref ∧ Paired (fun p kv => SqT K H p [kV kv.1, kv.2]) ps kvs ∧ ks = keysT kvs ∧ Reps G F H (kvs.map (·.2)) ws
  | _, _, _, _, .nil, h, _ => by
    cases h
    exact ⟨[], [], rfl, .nil, rfl, .nil⟩
  | v :: vs, u :: us, ks, ws, .cons r rs, h, hk => by
    cases r with
    | @tup a xs ts e q =>
      match xs, ts, q, h, e with
      | [x, y], [k, t], .cons r1 (.cons r2 .nil), h, e =>
        have h : (pairsT us >>= fun p => R.ok (k :: p.1, t :: p.2)) = .ok (ks, ws) := h
        cases hp : pairsT us with
        | ok p =>
          rw [hp] at h
          have h : R.ok (k :: p.1, t :: p.2) = .ok (ks, ws) := h
          cases h
          have hk : (flatT k && p.1.all flatT) = true := hk
          rw [Bool.and_eq_true] at hk
          obtain ⟨ps, kvs, h1, h2, h3, h4⟩ := pairs_reps K rs (ks := p.1) (ws := p.2) (by rw [hp]) hk.2
          obtain ⟨kk, ek, et⟩ := keyOf r1 hk.1
          subst ek et h1
          exact ⟨a :: ps, (kk, y) :: kvs, rfl, .cons (SqT.of e) h2, by rw [h3]; rfl, .cons r2 h4⟩
        | draw n f => rw [hp] at h; cases h
        | exc c x => rw [hp] at h; cases h
        | stuck => rw [hp] at h; cases h
      | [], [], .nil, h, _ => cases h
      | [_], [_], .cons _ .nil, h, _ => cases h
      | _ :: _ :: _ :: _, _ :: _ :: _ :: _, .cons _ (.cons _ (.cons _ _)), h, _ => cases h
    | _ => cases h
end
def rDictP (K : PySem.W.Frag) : List V → Hp → VK → Prop := fun xs H Q => ∃ (a : Addr) (ps : List Addr) (kvs : List (Key × V)), xs = [.ref a] ∧ SqL K H a (ps.map V.ref) ∧ Paired (fun p kv => SqT K H p [kV kv.1, kv.2]) ps kvs ∧
    ∀ p, H p = none → Q (.ref p) (upd H p (.dK (mergeK [] kvs)))
theorem pairsT_det {α : Type} {Qa : α → Nat → Prop} {E : Nat → T → Nat → Prop} {f : List T × List T → R α} {n : Nat} : ∀ {us : List T}, Sat Qa E (pairsT us >>= f) n → ∃ p, pairsT us = .ok p ∧ Sat Qa E (f p) n := by
  have key : ∀ us : List T, (∃ p, pairsT us = .ok p) ∨ pairsT us = .stuck := by
    intro us
    induction us with
    | nil => exact .inl ⟨_, rfl⟩
    | cons u us ih =>
      cases u with
      | tup xs =>
        match xs with
        | [k, t] =>
          rcases ih with ⟨p, hp⟩ | hp
          · refine .inl ⟨(k :: p.1, t :: p.2), ?_⟩
            show (pairsT us >>= fun p => R.ok (k :: p.1, t :: p.2)) = _
            rw [hp]; rfl
          · refine .inr ?_
            show (pairsT us >>= fun p => R.ok (k :: p.1, t :: p.2)) = _
            rw [hp]; rfl
        | [] => exact .inr rfl
        | [_] => exact .inr rfl
        | _ :: _ :: _ :: _ => exact .inr rfl
      | _ => exact .inr rfl
  intro us h
  rcases key us with ⟨p, hp⟩ | hp
  · rw [hp] at h
    exact ⟨p, hp, h⟩
  · rw [hp] at h
    exact h.elim
theorem bi_dict {rp : T → Str} (K : PySem.W.Frag) : BiOk rp .dict (rDictP K) := by
  intro G F H n us vs Q W ok s r h
  match us, h with
  | [t], h =>
    obtain ⟨v, rfl, r1⟩ := reps1 r
    cases r1 with
    | @lst a vs us f e q1 =>
      have h : Sat (EQ G F H Q) (ES G F H W) (pairsT us >>= fun p => if (p.1.all flatT && nomuts p.2) = true then R.ok ⟨.dct (mergeT p.1 p.2 ([], [])).1 (mergeT p.1 p.2 ([], [])).2, 2⟩ else .stuck) n := h
      obtain ⟨p, hp, h⟩ := pairsT_det h
      obtain ⟨hf, h⟩ := sat_iteB h
      rw [Bool.and_eq_true] at hf
      obtain ⟨ps, kvs, h1, h2, h3, h4⟩ := pairs_reps K q1 (ks := p.1) (ws := p.2) hp hf.1
      obtain ⟨us', m1, m2, m3⟩ := merge_reps (acc := []) (us := []) h4 hf.2 .nil rfl
      rw [h3] at h
      rw [show ([], []) = ((keysT [], []) : List T × List T) from rfl, m1] at h
      subst h1
      exact ⟨a, ps, kvs, rfl, SqL.of e, h2, fin_dct h ok s m3 m2⟩
    | _ => exact h.elim
  | [], h => exact h.elim
  | x :: y :: z, h => exact (by cases x <;> exact h.elim)
section
variable {X : Cx} {rp : T → Str} {call : Nat → List T → R Val} {W : XW} {pos : Pos}
theorem se_dnew : SE X rp call W (.Dict [] [] pos) (.dsp .nil .nil) :=
  PE.imp pe_dnewK fun σ H Q ⟨G, F, τ, b, pre, h⟩ p hp => fin_dct (kvs := []) (us := []) h pre.ok pre.inv rfl .nil p hp
end
end TM

set_option Elab.async false
set_option linter.all false
set_option maxRecDepth 100000
set_option maxHeartbeats 8000000
namespace TM
open PySem PySem.Spec L2

/-! ### repr of lists and tuples -/
/-- repr's letters -/
def rpT (t : T) : Str := t.toD.shown
theorem log2_small {n : Nat} (h : n < 1000000000000) : n.log2 + 1 ≤ 41 := by
  by_cases h0 : n = 0
  · subst h0; decide
  · have : n.log2 < 40 := (Nat.log2_lt h0).2 (by omega)
    omega
mutual
theorem show_of : ∀ {t : T}, t.isdat = true → t.smallI = true → t.toD.showable = true ∧ t.toD.intsShort 13 = true ∧ t.toD.weight ≤ t.wt
  | .non, _, _ => ⟨rfl, rfl, Nat.le_refl _⟩
  | .bl _, _, _ => ⟨rfl, rfl, Nat.le_refl _⟩
  | .int i, _, h => by
    have h : i.natAbs < 1000000000000 := Nat.le_of_ble_eq_true h
    have l := log2_small h
    refine ⟨?_, ?_, ?_⟩
    · show decide (i.natAbs.log2 < 1920) = true
      exact decide_eq_true (by omega)
    · show decide ((PyData.shown (.int i)).length ≤ 13) = true
      exact decide_eq_true (PyData.shown_int_le (by omega))
    · show (if i == 0 then 0 else i.natAbs.log2 + 1) ≤ 41
      split <;> omega
  | .str s, _, _ => ⟨rfl, rfl, Nat.le_refl _⟩
  | .lst xs, h1, h2 => shows_of (xs := xs) h1 h2
  | .tup xs, h1, h2 => shows_of (xs := xs) h1 h2
theorem shows_of : ∀ {xs : List T}, isdats xs = true → smallIs xs = true → PyData.showableAll (toDs xs) = true ∧ PyData.intsShortAll 13 (toDs xs) = true ∧ PyData.weightAll (toDs xs) ≤ wts xs
  | [], _, _ => ⟨rfl, rfl, Nat.le_refl _⟩
  | x :: xs, h1, h2 => by
    have h1 : (x.isdat && isdats xs) = true := h1
    have h2 : (x.smallI && smallIs xs) = true := h2
    rw [Bool.and_eq_true] at h1 h2
    obtain ⟨a1, a2, a3⟩ := show_of h1.1 h2.1
    obtain ⟨b1, b2, b3⟩ := shows_of h1.2 h2.2
    refine ⟨?_, ?_, ?_⟩
    · show (x.toD.showable && PyData.showableAll (toDs xs)) = true
      rw [a1, b1]; rfl
    · show (x.toD.intsShort 13 && PyData.intsShortAll 13 (toDs xs)) = true
      rw [a2, b2]; rfl
    · show x.toD.weight + 1 + PyData.weightAll (toDs xs) ≤ x.wt + 1 + wts xs
      omega
end
def rRepr (K : PySem.W.Frag) : List V → Hp → VK → Prop := fun vs H Q => ∃ (a : Addr) (t : T), vs = [.ref a] ∧ Dp K H (.ref a) t.toD ∧ t.okrepr = true ∧ Q (.str (rpT t)) H
theorem cr_repr {X : Cx} (hu : X.A.units + 65 < cLine) (hg : X.A.guards = some []) : CallR X (.builtin "repr") (rRepr X.K) := by
  intro pins s σ H vs us Q I r h
  obtain ⟨a, t, rfl, hd, hok, q⟩ := h
  rw [Vals.ref1 r]
  unfold T.okrepr at hok
  simp only [Bool.and_eq_true] at hok
  obtain ⟨k1, k2, k3, k4, k5⟩ := hok
  obtain ⟨s1, s2, s3⟩ := show_of k1 k3
  obtain ⟨as, rd⟩ := Dp.reads I _ _ _ hd (show RelV (.ref a) (.ref a) from rfl)
  have cl := canLay_of k1
  refine repr_of_reads' rd s1 (PyData.noDict_hsm (PyData.hasDict_of_canLay _ cl)) hg ?_ (fun _ _ e => e) (fun h' u tk hk => ⟨.str (rpT t), H, I.kept (t' := tk) hk, ⟨u, rfl⟩, q⟩)
    (PyData.shown_fits (B := 13) (by decide) (by decide) (PyData.leavesShort_of_canLay0 13 _ cl s2) (Nat.le_trans s3 (Nat.le_of_ble_eq_true k5)))
  rw [depth_toD k1]
  have := Nat.le_of_ble_eq_true k4
  omega
theorem bi_repr (K : PySem.W.Frag) : BiOk rpT .repr (rRepr K) := by
  intro G F H n us vs Q W ok s r h
  match us, h with
  | [t], h =>
    obtain ⟨v, rfl, r1⟩ := reps1 r
    have h : Sat (EQ G F H Q) (ES G F H W) (if t.okrepr = true then mk2 (.str (rpT t)) else R.stuck) n := h
    obtain ⟨hok, h⟩ := sat_iteB h
    have hd : t.isdat = true := by
      unfold T.okrepr at hok
      rw [Bool.and_eq_true] at hok
      exact hok.1
    have hD := r1.dp (K := K) hd
    unfold T.okrepr at hok
    have hok' := hok
    simp only [Bool.and_eq_true] at hok'
    have fin : Q (.str (rpT t)) H := fin_sc h ok s rfl (.str _)
    have hds := hok'.2.1
    cases t <;> first | (cases hds; done) | skip
    all_goals
      cases r1
      exact ⟨_, _, rfl, hD, by unfold T.okrepr; exact hok, fin⟩
  | [], h => exact h.elim
  | x :: y :: z, h => exact (by cases x <;> exact h.elim)

/-! ### all built-ins -/
def biNm : BI → Str
  | .sorted => "sorted"
  | .repr => "repr"
  | .dict => "dict"
  | .mind => "min"
  | b => biName b
def biAll : BI → Bool
  | .sorted => true
  | .repr => true
  | .dict => true
  | .mind => true
  | b => biIs b
section
variable {X : Cx} {W : XW} {call : Nat → List T → R Val} {f : BI} {p pos : Pos} {e : Expr} {es : List Expr} {As : Es}
theorem se_biA (hu : X.A.units + 65 < cLine) (hgd : X.A.guards = some []) (hc : X.calm = true) (hb : biAll f = true) (hg : Gl X (biNm f)) (hm : X.mg (biNm f) = none) (ha : SA X rpT call W (e :: es) As) (he : starEach (e :: es) X.env = (false, eval e X.env) :: starEach es X.env) (hpl : (backTo pos (starEach es X.env)).any (·.1) = false) :
    SE X rpT call W (.Call (.Name (biNm f) p) (e :: es) [] pos) (.bi f As) := by
  have fin : ∀ {r : List V → Hp → VK → Prop}, BiOk rpT f r → ∀ σ H Q, tE rpT call W (.bi f As) σ H Q → tCB r (tEs rpT call W As) σ H Q := fun {r} ok σ H Q ⟨G, F, τ, b, pre, h⟩ =>
    many pre h (fun _ _ _ z => z) fun us vs F1 H1 b1 st r' hx => ok G F1 H1 b1 (ts us) vs Q W st.ok st.inv r' (sat_next pre.inv st hx)
  cases hf : biIs f with
  | true =>
    have e : biNm f = biName f := by cases f <;> first | rfl | cases hf
    rw [e] at hg hm ⊢
    exact se_bi hc hf hg hm ha he hpl
  | false =>
    cases f <;> first | (cases hf; done) | (cases hb; done) | skip
    · exact PE.imp (pe_callB (cr_srtA hc hu) hg hm (by decide +kernel) ha (by decide) (by decide) he hpl) (fin (bi_sorted X.K))
    · exact PE.imp (pe_callB (cr_repr hu hgd) hg hm (by decide +kernel) ha (by decide) (by decide) he hpl) (fin (bi_repr X.K))
    · exact PE.imp (pe_callTy (call_dictP hc) hg hm (by decide +kernel) ha (by decide) (by decide) he hpl) (fin (bi_dict X.K))
    · exact PE.imp (pe_callB (cr_minD hc hu) hg hm (by decide +kernel) ha (by decide) (by decide) he hpl) (fin (bi_mind X.K))
end
end TM

set_option Elab.async false
set_option linter.all false
set_option maxRecDepth 100000
set_option maxHeartbeats 8000000
namespace TM
open PySem PySem.Spec L2

/-! ### what is owned is spoilt, in whatever way its parts are one thing -/
def rv (r : Addr → Nat) : V → Nat
  | .ref a => r a + 1
  | _ => 0
mutual
/-- lists of fp, tuples, plain things, ranked by r; c lists are met -/
inductive Sp3 (fp : List Addr) (r : Addr → Nat) (H : Hp) : V → Nat → Prop
  | non : Sp3 fp r H .non 0
  | bl (b : Bool) : Sp3 fp r H (.bl b) 0
  | int (i : Int) : Sp3 fp r H (.int i) 0
  | str (x : Str) : Sp3 fp r H (.str x) 0
  | lst {a : Addr} {vs : List V} {c : Nat} : a ∈ fp → H a = some (.lst vs) → (∀ x ∈ vs, rv r x ≤ r a) → Sp3s fp r H vs c → Sp3 fp r H (.ref a) (c + 1)
  | tup {a : Addr} {vs : List V} {c : Nat} : a ∉ fp → H a = some (.tup vs) → (∀ x ∈ vs, rv r x ≤ r a) → Sp3s fp r H vs c → Sp3 fp r H (.ref a) c
inductive Sp3s (fp : List Addr) (r : Addr → Nat) (H : Hp) : List V → Nat → Prop
  | nil : Sp3s fp r H [] 0
  | cons {v : V} {vs : List V} {c d : Nat} : Sp3 fp r H v c → Sp3s fp r H vs d → Sp3s fp r H (v :: vs) (c + d)
end
structure Post3 (fp : List Addr) (r : Addr → Nat) (H H' : Hp) (m c : Nat) : Prop where
  out : ∀ a o, H a = some o → a ∉ fp → H' a = some o
  ext : ∀ a xs, a ∈ fp → H a = some (.lst xs) → ∃ k, k ≤ c ∧ H' a = some (.lst (xs ++ List.replicate k (.str "late")))
  hi : ∀ a o, H a = some o → m ≤ r a → H' a = some o
def spSpoil (d : Nat) : Sp := fun vs H Q _ => ∃ (v : V) (fp : List Addr) (r : Addr → Nat) (c : Nat), vs = [v] ∧ Sp3 fp r H v c ∧ rv r v ≤ d ∧ (∀ a, a ∈ fp → ∃ xs, H a = some (.lst xs) ∧ xs.length + c ≤ LINE) ∧ ∀ H', Post3 fp r H H' (rv r v) c → Q .non H'
section
variable {fp : List Addr} {r : Addr → Nat} {H H' H2 : Hp} {m m' c c' : Nat}
theorem Post3.trans (p : Post3 fp r H H' m c) (q : Post3 fp r H' H2 m' c') (hm : m' ≤ m) : Post3 fp r H H2 m (c + c') where
  out := fun a o e h => q.out a o (p.out a o e h) h
  ext := fun a xs ha e => by
    obtain ⟨k, hk, e1⟩ := p.ext a xs ha e
    obtain ⟨k', hk', e2⟩ := q.ext a _ ha e1
    exact ⟨k + k', by omega, by rw [e2, List.append_assoc, List.replicate_append_replicate]⟩
  hi := fun a o e h => q.hi a o (p.hi a o e h) (Nat.le_trans hm h)
theorem Post3.mono (p : Post3 fp r H H' m c) (hm : m ≤ m') (hc : c ≤ c') : Post3 fp r H H' m' c' where
  out := p.out
  ext := fun a xs ha e => by
    obtain ⟨k, hk, e1⟩ := p.ext a xs ha e
    exact ⟨k, by omega, e1⟩
  hi := fun a o e h => p.hi a o e (Nat.le_trans hm h)
theorem Post3.keep (h : ∀ a o, H a = some o → H' a = some o) : Post3 fp r H H' m c where
  out := fun a o e _ => h a o e
  ext := fun a xs ha e => ⟨0, Nat.zero_le _, by simpa using h a _ e⟩
  hi := fun a o e _ => h a o e
theorem Sp3s.lates : ∀ {k : Nat}, Sp3s fp r H (List.replicate k (.str "late")) 0
  | 0 => .nil
  | k + 1 => .cons (c := 0) (d := 0) (.str _) Sp3s.lates
theorem Sp3s.append : ∀ {vs ws : List V} {c d : Nat}, Sp3s fp r H vs c → Sp3s fp r H ws d → Sp3s fp r H (vs ++ ws) (c + d)
  | _, _, _, _, .nil, h => by rw [Nat.zero_add]; exact h
  | _, _, _, _, .cons x xs, h => by rw [Nat.add_assoc]; exact .cons x (Sp3s.append xs h)
mutual
theorem Sp3.post (p : Post3 fp r H H' m c') : ∀ {v : V} {c : Nat}, Sp3 fp r H v c → Sp3 fp r H' v c
  | _, _, .non => .non
  | _, _, .bl b => .bl b
  | _, _, .int i => .int i
  | _, _, .str x => .str x
  | _, _, .lst ha e hr hs => by
    obtain ⟨k, _, e1⟩ := p.ext _ _ ha e
    exact .lst ha e1 (fun x hx => by
      rcases List.mem_append.mp hx with hx | hx
      · exact hr x hx
      · rw [(List.mem_replicate.mp hx).2]; exact Nat.zero_le _) (Sp3s.append (Sp3s.post p hs) Sp3s.lates)
  | _, _, .tup ha e hr hs => .tup ha (p.out _ _ e ha) hr (Sp3s.post p hs)
theorem Sp3s.post (p : Post3 fp r H H' m c') : ∀ {vs : List V} {c : Nat}, Sp3s fp r H vs c → Sp3s fp r H' vs c
  | _, _, .nil => .nil
  | _, _, .cons x xs => .cons (Sp3.post p x) (Sp3s.post p xs)
end
end
/-! the rank: the tree's depth -/
section
variable {G : Gb} {fp : List Addr} {H : Hp}
mutual
theorem rep_fun {F F' : Fz} {n : Nat} : ∀ {v : V} {t t' : T}, Rep G F H v t → Rep G F' H v t' → t.fits n = true → t'.fits n = true → t = t'
  | _, _, _, .non, s, _, _ => by cases s; rfl
  | _, _, _, .bl b, s, _, _ => by cases s; rfl
  | _, _, _, .int i, s, _, _ => by cases s; rfl
  | _, _, _, .str x, s, _, _ => by cases s; rfl
  | _, _, _, .tok e, s, h, _ => nomatch h
  | _, _, _, .adr, s, h, _ => nomatch h
  | _, _, _, .dct f e q, s, h, _ => nomatch h
  | _, _, _, .lst (us := us) f e q, s, h, h' => by
    cases s with
    | tok e => cases h'
    | adr => cases h'
    | dct f e q => cases h'
    | tup e' q' => rw [e] at e'; cases e'
    | lst f' e' q' =>
      rw [e] at e'
      cases e'
      have h1 : (Nat.ble us.length n && fitss n us) = true := h
      rw [Bool.and_eq_true] at h1
      have h2 := h'
      unfold T.fits at h2
      rw [Bool.and_eq_true] at h2
      rw [reps_fun q q' h1.2 h2.2]
  | _, _, _, .tup (us := us) e q, s, h, h' => by
    cases s with
    | tok e => cases h'
    | adr => cases h'
    | dct f e q => cases h'
    | lst f' e' q' => rw [e] at e'; cases e'
    | tup e' q' =>
      rw [e] at e'
      cases e'
      have h1 : fitss n us = true := h
      have h2 := h'
      unfold T.fits at h2
      rw [reps_fun q q' h1 h2]
theorem reps_fun {F F' : Fz} {n : Nat} : ∀ {vs : List V} {ts ts' : List T}, Reps G F H vs ts → Reps G F' H vs ts' → fitss n ts = true → fitss n ts' = true → ts = ts'
  | _, _, _, .nil, s, _, _ => by cases s; rfl
  | _, _, _, .cons q qs, s, h, h' => by
    cases s with
    | cons q' qs' =>
      unfold fitss at h h'
      rw [Bool.and_eq_true] at h h'
      rw [rep_fun q q' h.1 h'.1, reps_fun qs qs' h.2 h'.2]
end
open Classical in
noncomputable def rk (G : Gb) (fp : List Addr) (H : Hp) (n : Nat) (a : Addr) : Nat := if h : ∃ t : T, Rep G (fun a => a ∈ fp) H (.ref a) t ∧ t.fits n = true then h.choose.depth - 1 else 0
theorem rk_eq {n : Nat} {a : Addr} {t : T} (q : Rep G (fun a => a ∈ fp) H (.ref a) t) (h : t.fits n = true) : rk G fp H n a = t.depth - 1 := by
  have e : ∃ t : T, Rep G (fun a => a ∈ fp) H (.ref a) t ∧ t.fits n = true := ⟨t, q, h⟩
  unfold rk
  rw [dif_pos e, rep_fun e.choose_spec.1 q e.choose_spec.2 h]
theorem rv_le {n : Nat} {v : V} {t : T} (q : Rep G (fun a => a ∈ fp) H v t) (h : t.fits n = true) : rv (rk G fp H n) v ≤ t.depth := by
  cases q with
  | non => exact Nat.zero_le _
  | bl _ => exact Nat.zero_le _
  | int _ => exact Nat.zero_le _
  | str _ => exact Nat.zero_le _
  | tok e => cases h
  | adr => cases h
  | dct f e q => cases h
  | lst f e q =>
    show rk G fp H n _ + 1 ≤ _
    rw [rk_eq (.lst f e q) h]
    unfold T.depth; omega
  | tup e q =>
    show rk G fp H n _ + 1 ≤ _
    rw [rk_eq (.tup e q) h]
    unfold T.depth; omega
theorem reps_mem {F : Fz} {n : Nat} : ∀ {vs : List V} {us : List T}, Reps G F H vs us → fitss n us = true → ∀ x ∈ vs, ∃ u, Rep G F H x u ∧ u.fits n = true ∧ u.depth ≤ depths us
  | _, _, .nil, _, x, hx => nomatch hx
  | _, u :: us, .cons q qs, h, x, hx => by
    unfold fitss at h
    rw [Bool.and_eq_true] at h
    rcases List.mem_cons.mp hx with rfl | hx
    · exact ⟨_, q, h.1, by unfold depths; omega⟩
    · obtain ⟨w, h1, h2, h3⟩ := reps_mem qs h.2 x hx
      exact ⟨w, h1, h2, by unfold depths; omega⟩
mutual
theorem sp3_of {n : Nat} (kd : ∀ a ∈ fp, ∀ xs, H a ≠ some (.tup xs)) : ∀ {v : V} {t : T}, Rep G (fun a => a ∈ fp) H v t → t.fits n = true → Sp3 fp (rk G fp H n) H v t.met
  | _, _, .non, _ => .non
  | _, _, .bl b, _ => .bl b
  | _, _, .int i, _ => .int i
  | _, _, .str x, _ => .str x
  | _, _, .tok e, h => nomatch h
  | _, _, .adr, h => nomatch h
  | _, _, .dct f e q, h => nomatch h
  | _, _, .lst (us := us) f e q, h => by
    have h1 := h
    unfold T.fits at h1
    rw [Bool.and_eq_true] at h1
    refine .lst f e (fun x hx => ?_) (sp3s_of kd q h1.2)
    obtain ⟨u, h2, h3, h4⟩ := reps_mem q h1.2 x hx
    rw [rk_eq (.lst f e q) h]
    have := rv_le h2 h3
    have e3 : (T.lst us).depth = depths us + 1 := rfl
    omega
  | _, _, .tup (us := us) e q, h => by
    have h1 := h
    unfold T.fits at h1
    refine .tup (fun k => kd _ k _ e) e (fun x hx => ?_) (sp3s_of kd q h1)
    obtain ⟨u, h2, h3, h4⟩ := reps_mem q h1 x hx
    rw [rk_eq (.tup e q) h]
    have := rv_le h2 h3
    have e3 : (T.tup us).depth = depths us + 1 := rfl
    omega
theorem sp3s_of {n : Nat} (kd : ∀ a ∈ fp, ∀ xs, H a ≠ some (.tup xs)) : ∀ {vs : List V} {us : List T}, Reps G (fun a => a ∈ fp) H vs us → fitss n us = true → Sp3s fp (rk G fp H n) H vs (mets us)
  | _, _, .nil, _ => .nil
  | _, _, .cons q qs, h => by
    unfold fitss at h
    rw [Bool.and_eq_true] at h
    exact .cons (sp3_of kd q h.1) (sp3s_of kd qs h.2)
end
/-! what a tree leans on, as a list -/
def Kd (H : Hp) (a : Addr) : Prop := (∃ xs, H a = some (.lst xs)) ∨ ∃ kvs, H a = some (.dK kvs)
mutual
theorem rep_list {F : Fz} : ∀ {v : V} {t : T}, Rep G F H v t → ∃ l : List Addr, (∀ a ∈ l, F a ∧ Kd H a) ∧ Rep G (fun a => a ∈ l) H v t
  | _, _, .non => ⟨[], (fun _ k => nomatch k), .non⟩
  | _, _, .bl b => ⟨[], (fun _ k => nomatch k), .bl b⟩
  | _, _, .int i => ⟨[], (fun _ k => nomatch k), .int i⟩
  | _, _, .str x => ⟨[], (fun _ k => nomatch k), .str x⟩
  | _, _, .tok e => ⟨[], (fun _ k => nomatch k), .tok e⟩
  | _, _, .adr => ⟨[], (fun _ k => nomatch k), .adr⟩
  | _, _, .lst (a := a) f e q => by
    obtain ⟨l, h1, h2⟩ := reps_list q
    exact ⟨a :: l, fun c hc => by
      rcases List.mem_cons.mp hc with rfl | hc
      · exact ⟨f, .inl ⟨_, e⟩⟩
      · exact h1 c hc, .lst List.mem_cons_self e (h2.lift ⟨fun _ k => List.mem_cons_of_mem _ k, fun _ _ e _ => e⟩)⟩
  | _, _, .tup e q => by
    obtain ⟨l, h1, h2⟩ := reps_list q
    exact ⟨l, h1, .tup e h2⟩
  | _, _, .dct (a := a) f e q => by
    obtain ⟨l, h1, h2⟩ := reps_list q
    exact ⟨a :: l, fun c hc => by
      rcases List.mem_cons.mp hc with rfl | hc
      · exact ⟨f, .inr ⟨_, e⟩⟩
      · exact h1 c hc, .dct List.mem_cons_self e (h2.lift ⟨fun _ k => List.mem_cons_of_mem _ k, fun _ _ e _ => e⟩)⟩
theorem reps_list {F : Fz} : ∀ {vs : List V} {us : List T}, Reps G F H vs us → ∃ l : List Addr, (∀ a ∈ l, F a ∧ Kd H a) ∧ Reps G (fun a => a ∈ l) H vs us
  | _, _, .nil => ⟨[], (fun _ k => nomatch k), .nil⟩
  | _, _, .cons q qs => by
    obtain ⟨l, h1, h2⟩ := rep_list q
    obtain ⟨l', h3, h4⟩ := reps_list qs
    exact ⟨l ++ l', fun a ha => (List.mem_append.mp ha).elim (h1 a) (h3 a), .cons (h2.lift ⟨fun _ k => List.mem_append_left _ k, fun _ _ e _ => e⟩) (h4.lift ⟨fun _ k => List.mem_append_right _ k, fun _ _ e _ => e⟩)⟩
end
open Classical in
theorem nodup_of : ∀ l : List Addr, ∃ l' : List Addr, l'.Nodup ∧ ∀ a, a ∈ l' ↔ a ∈ l
  | [] => ⟨[], List.nodup_nil, fun a => by simp⟩
  | x :: l => by
    obtain ⟨l', h1, h2⟩ := nodup_of l
    by_cases hx : x ∈ l'
    · refine ⟨l', h1, fun a => Iff.intro (fun k => List.mem_cons_of_mem _ ((h2 a).1 k)) fun k => ?_⟩
      rcases List.mem_cons.mp k with rfl | k
      · exact hx
      · exact (h2 a).2 k
    · exact ⟨x :: l', List.nodup_cons.mpr ⟨hx, h1⟩, fun a => by rw [List.mem_cons, List.mem_cons, h2]⟩
end
section
variable {X : Cx} {rp : T → Str} {call : Nat → List T → R Val} {W : XW} {G : Gb} {F F0 F1 : Fz} {H H' H0 : Hp} {b b0 b1 : Nat} {σ : St} {τ : TM.Env} {fps : Fps} {pos p p2 cpos : Pos} {i : Nat} {A : E} {e : Expr}
theorem wipes_in : ∀ {is : List Nat} {τ : TM.Env} {i : Nat} {u : Val}, (wipes is τ)[i]? = some (some u) → i ∉ is ∧ τ[i]? = some (some u)
  | [], _, _, _, h => ⟨(fun k => nomatch k), h⟩
  | j :: is, τ, i, u, h => by
    have h : ((wipes is τ).set j none)[i]? = some (some u) := h
    by_cases hj : j = i
    · subst hj
      by_cases hl : j < (wipes is τ).length
      · rw [List.getElem?_set_self hl] at h; cases h
      · rw [List.getElem?_eq_none (by simpa using hl)] at h; cases h
    · rw [List.getElem?_set_ne hj] at h
      obtain ⟨h1, h2⟩ := wipes_in h
      exact ⟨fun k => by
        rcases List.mem_cons.mp k with k | k
        · exact hj k.symm
        · exact h1 k, h2⟩
theorem wipes_out : ∀ {is : List Nat} {τ : TM.Env} {i : Nat}, i ∉ is → (wipes is τ)[i]? = τ[i]?
  | [], _, _, _ => rfl
  | j :: is, τ, i, h => by
    show ((wipes is τ).set j none)[i]? = _
    rw [List.getElem?_set_ne (fun z : j = i => h (by rw [z]; exact List.mem_cons_self)), wipes_out (fun k => h (List.mem_cons_of_mem _ k))]
theorem wipes_len : ∀ {is : List Nat} {τ : TM.Env}, (wipes is τ).length = τ.length
  | [], _ => rfl
  | j :: is, τ => by
    show ((wipes is τ).set j none).length = _
    rw [List.length_set, wipes_len]
open Classical in
/-- the things l, of the names mv alone, are altered -/
theorem SR.alterL (s0 : SInv G b0 H0) (S : SR G F0 H0 F H σ τ b fps) {l : List Addr} {mv : List Nat} (hl : ∀ a ∈ l, H0 a = none ∧ ¬ F a ∧ Kd H a ∧ ∀ j, a ∈ fps j → j ∈ mv) (hH : ∀ a o, H a = some o → a ∉ l → H' a = some o) :
    ∃ fps', SR G F0 H0 F H' σ (wipes mv τ) b fps' ∧ Lift G F F H H' := by
  have notF : ∀ a, F a → a ∉ l := fun a f k => (hl a k).2.1 f
  have notV : ∀ a, vol G a → a ∉ l := fun a v k => not_vol_of_none s0 (hl a k).1 v
  have L : Lift G F F H H' := ⟨fun _ f => f, fun a o e h => hH a o e (by
    rcases h with h | ⟨xs, rfl⟩
    · exact notF a h
    · intro k
      rcases (hl a k).2.2.1 with ⟨ys, q⟩ | ⟨kvs, q⟩ <;> (rw [e] at q; cases q))⟩
  refine ⟨fun j => if j ∈ mv then [] else fps j, ⟨⟨fun a o e nv => ?_, S.stp.mono, S.stp.new, fun a f => ?_, ?_⟩, by rw [wipes_len]; exact S.len, fun j u e => ?_, fun j h => ?_, fun j => ?_, fun j k a hj hk => ?_⟩, L⟩
  · exact hH a o (S.stp.ext a o e nv) fun k => by
      rw [(hl a k).1] at e; cases e
  · obtain ⟨h1, o, h2⟩ := S.stp.ok a f
    exact ⟨h1, o, hH a o h2 (notF a f)⟩
  · have inv := S.stp.inv
    cases G with
    | none => trivial
    | some g =>
      obtain ⟨s, l⟩ := g
      obtain ⟨h1, ns, x, y, z, e1, e2, r⟩ := inv
      exact ⟨h1, ns, x, y, z, hH _ _ e1 (notV s (.inl rfl)), hH _ _ e2 (notV l (.inr rfl)), r⟩
  · obtain ⟨hj, e⟩ := wipes_in e
    obtain ⟨v, h1, h2⟩ := S.vw j u e
    rw [if_neg hj]
    exact ⟨v, h1, h2.lift ⟨L, fun a o ha e => hH a o e fun k => hj ((hl a k).2.2.2 j ha)⟩⟩
  · split
    · rfl
    · rename_i hj
      exact S.emp j fun w e => h w (by rw [wipes_out hj]; exact e)
  · split
    · exact ⟨List.nodup_nil, fun _ k => nomatch k⟩
    · exact S.own j
  · split at hj
    · cases hj
    · split at hk
      · cases hk
      · exact S.dis j k a hj hk
theorem met_le {t : T} {n : Nat} {fp : List Addr} : ∀ {v : V}, t.fits n = true → Rep G (fun a => a ∈ fp) H v t → True := fun _ _ => trivial
mutual
/-- lists of a tree that fits are no longer than n -/
theorem fits_list {n : Nat} {F : Fz} : ∀ {v : V} {t : T}, Rep G F H v t → t.fits n = true → ∃ l : List Addr, (∀ a ∈ l, F a ∧ ∃ xs, H a = some (.lst xs) ∧ xs.length ≤ n) ∧ Rep G (fun a => a ∈ l) H v t
  | _, _, .non, _ => ⟨[], (fun _ k => nomatch k), .non⟩
  | _, _, .bl b, _ => ⟨[], (fun _ k => nomatch k), .bl b⟩
  | _, _, .int i, _ => ⟨[], (fun _ k => nomatch k), .int i⟩
  | _, _, .str x, _ => ⟨[], (fun _ k => nomatch k), .str x⟩
  | _, _, .tok e, h => nomatch h
  | _, _, .adr, h => nomatch h
  | _, _, .dct f e q, h => nomatch h
  | _, _, .lst (a := a) f e q, h => by
    unfold T.fits at h
    rw [Bool.and_eq_true] at h
    obtain ⟨l, h1, h2⟩ := fits_lists q h.2
    exact ⟨a :: l, fun c hc => by
      rcases List.mem_cons.mp hc with rfl | hc
      · exact ⟨f, _, e, by rw [q.length]; exact Nat.le_of_ble_eq_true h.1⟩
      · exact h1 c hc, .lst List.mem_cons_self e (h2.lift ⟨fun _ k => List.mem_cons_of_mem _ k, fun _ _ e _ => e⟩)⟩
  | _, _, .tup e q, h => by
    unfold T.fits at h
    obtain ⟨l, h1, h2⟩ := fits_lists q h
    exact ⟨l, h1, .tup e h2⟩
theorem fits_lists {n : Nat} {F : Fz} : ∀ {vs : List V} {us : List T}, Reps G F H vs us → fitss n us = true → ∃ l : List Addr, (∀ a ∈ l, F a ∧ ∃ xs, H a = some (.lst xs) ∧ xs.length ≤ n) ∧ Reps G (fun a => a ∈ l) H vs us
  | _, _, .nil, _ => ⟨[], (fun _ k => nomatch k), .nil⟩
  | _, _, .cons q qs, h => by
    unfold fitss at h
    rw [Bool.and_eq_true] at h
    obtain ⟨l, h1, h2⟩ := fits_list q h.1
    obtain ⟨l', h3, h4⟩ := fits_lists qs h.2
    exact ⟨l ++ l', fun a ha => (List.mem_append.mp ha).elim (h1 a) (h3 a), .cons (h2.lift ⟨fun _ k => List.mem_append_left _ k, fun _ _ e _ => e⟩) (h4.lift ⟨fun _ k => List.mem_append_right _ k, fun _ _ e _ => e⟩)⟩
end
/-- a thing that leans on F is ready to be spoilt: only things of F are altered -/
theorem spoil_go {v : V} {t : T} {Fr : Fz} {Q : VK} {E : XK} (q : Rep G Fr H v t) (h3 : t.spo3 = true) (hd : t.depth ≤ 6) (hQ : ∀ (H' : Hp) (l : List Addr), (∀ a ∈ l, Fr a ∧ Kd H a) → (∀ a o, H a = some o → a ∉ l → H' a = some o) → Q .non H') : spSpoil 6 [v] H Q E := by
  unfold T.spo3 at h3
  rw [Bool.and_eq_true] at h3
  have hm := Nat.le_of_ble_eq_true h3.2
  obtain ⟨l, h1, h2⟩ := fits_list q h3.1
  have kd : ∀ a ∈ l, ∀ xs, H a ≠ some (.tup xs) := fun a ha xs e => by
    obtain ⟨_, ys, e2, _⟩ := h1 a ha
    rw [e] at e2; cases e2
  refine ⟨v, l, rk G l H 10000000, t.met, rfl, sp3_of kd h2 h3.1, Nat.le_trans (rv_le h2 h3.1) hd, fun a ha => ?_, fun H' p => hQ H' l (fun a ha => ?_) p.out⟩
  · obtain ⟨_, ys, e2, hl⟩ := h1 a ha
    refine ⟨ys, e2, ?_⟩
    unfold LINE
    omega
  · obtain ⟨f, ys, e2, _⟩ := h1 a ha
    exact ⟨f, .inl ⟨ys, e2⟩⟩
theorem RepV.reg {v : V} {t : T} {lv : Nat} {fp : List Addr} (r : RepV G F H v ⟨t, lv + 2⟩ fp) : Rep G (fun a => a ∈ fp) H v t := by
  match lv, r with
  | 0, r => exact RepD.reg r
  | 1, r => exact r.2.1
  | n + 2, r => exact r.elim
theorem ss_spoil {x : Str} {k : Nat} {adr : Addr} {fd : FuncData} (hr : Room k X.A) (hgd : X.A.guards = some []) (Fn : FnG X.prog X.w X.K X.mg X.base k adr fd ["thing"] (spSpoil 6)) (hg : Gl X "_law_spoilt") (hm : X.mg "_law_spoilt" = some (.ref adr)) (hk : PySem.W.keepIn X.K (.ref adr) = true) (hb : Binds X.K fd ["thing"] [])
    (hN : X.N[i]? = some x) (hvi : Vis X.env.scope x) (hd : (x == ("__debug__" : Str)) = false) (hcd : (x == ("__classdict__" : Str)) = false) :
    SS X rp call W (.Expr (.Call (.Name "_law_spoilt" p) [.Name x p2] [] cpos) pos) (.spoil i) :=
  PS.imp (ps_expr (pe_callG (E := E0) Fn hr hgd hg hm hk hb (pa_cons (pe_var hN hvi hd hcd) pa_nil) (by decide +kernel) rfl rfl) rfl) fun D σ H ⟨G, F0, H0, b0, F, τ, b, fps, s0, f0, S, h⟩ => by
    unfold evS at h
    split at h
    · rename_i t l e
      obtain ⟨hc, h⟩ := sat_iteB h
      rw [Bool.and_eq_true] at hc
      obtain ⟨v, hv, r⟩ := S.vw i _ e
      refine ⟨v, hv, ?_⟩
      show spSpoil 6 [v] H (fun _ H1 => D.nx σ H1) E0
      refine spoil_go r.reg hc.1 (Nat.le_of_ble_eq_true hc.2) fun H' l hl hH => ?_
      obtain ⟨fps', S', L⟩ := S.alterL (mv := [i]) s0 (fun a ha => ⟨((S.own i).2 a (hl a ha).1).1, ((S.own i).2 a (hl a ha).1).2, (hl a ha).2, fun j hj => by
        rw [S.dis j i a hj (hl a ha).1]; exact List.mem_cons_self⟩) hH
      exact h σ H' F _ S' L
    · exact h.elim
end
end TM

set_option Elab.async false
set_option linter.all false
set_option maxRecDepth 100000
set_option maxHeartbeats 8000000
namespace TM
open PySem PySem.Spec L2
section
variable {X : Cx} {rp : T → Str} {call : Nat → List T → R Val} {W : XW} {G : Gb} {F F0 F1 : Fz} {H H' H0 H1 : Hp} {b b0 b1 b' : Nat} {σ : St} {τ : TM.Env} {fps : Fps} {pos p p2 cpos : Pos} {i : Nat} {A : E} {e : Expr} {es : List Expr} {As : Es} {Q : VK}
/-! ### of what can't change alone -/
theorem hideM_get {u : Val} (h : (hideM τ)[i]? = some (some u)) : τ[i]? = some (some u) ∧ u.t.nomut = true := by
  unfold hideM at h
  rw [List.getElem?_map] at h
  cases e : τ[i]? with
  | none => rw [e] at h; cases h
  | some o =>
    rw [e] at h
    cases o with
    | none => cases h
    | some v =>
      simp only [Option.map_some, Option.some.injEq] at h
      split at h
      · rename_i hc
        cases h
        exact ⟨rfl, hc⟩
      · cases h
theorem Pre.hideM (p : Pre G F H σ τ b) : Pre G (fun _ => False) H σ (TM.hideM τ) b :=
  ⟨fun a f => f.elim, p.inv, by unfold TM.hideM; rw [List.length_map]; exact p.vw.1, fun i u e => by
    obtain ⟨e1, hn⟩ := hideM_get e
    obtain ⟨v, h1, h2⟩ := p.vw.2 i u e1
    exact ⟨v, h1, h2.any hn⟩⟩
/-- what F holds stands behind a run that saw nothing of it -/
theorem Stp.widen (ok : FOk G F H) (st : Stp G (fun _ => False) H F1 H1 b1) : Stp G F H F H1 b1 :=
  ⟨st.ext, fun _ f => f, fun _ f => .inl f, fun a f => by
    obtain ⟨h1, o, h2⟩ := ok a f
    exact ⟨h1, o, st.ext a o h2 h1⟩, st.inv⟩
theorem Stp.widen2 (ok : FOk G F H) (st : Stp G (fun _ => False) H F1 H1 b1) : Stp G F H (fun a => F a ∨ F1 a) H1 b1 :=
  ⟨st.ext, fun _ f => .inl f, fun a f => by
    rcases f with f | f
    · exact .inl f
    · exact .inr ((st.new a f).resolve_left id), fun a f => by
    rcases f with f | f
    · obtain ⟨h1, o, h2⟩ := ok a f
      exact ⟨h1, o, st.ext a o h2 h1⟩
    · exact st.ok a f, st.inv⟩
theorem own_reg {l fp : List Addr} (ok : FOk G F H) (st : Stp G (fun _ => False) H F1 H1 b1) (o : Own F1 H fp) (hn : l.Nodup) (hl : ∀ a ∈ l, F1 a ∨ a ∈ fp) : Own F H l := ⟨hn, fun a ha => by
  have h0 : H a = none := by
    rcases hl a ha with f | f
    · exact (st.new a f).resolve_left id
    · exact (o.2 a f).1
  exact ⟨h0, fok_new ok h0⟩⟩
theorem EQ.up (ok : FOk G F H) {u : Val} (h : EQ G F H Q (TM.up u) b') : EQ G (fun _ => False) H Q u b' := fun v H' F' fp st r o => by
  obtain ⟨t, lv⟩ := u
  unfold TM.up at h
  dsimp only at h
  by_cases h2 : lv = 2
  · subst h2
    rw [if_pos rfl] at h
    exact h v H' F fp (st.widen ok) (RepD.any (F := F') r) (own_reg ok st o o.1 fun a ha => .inr ha)
  · rw [if_neg h2] at h
    have rs := r.share
    cases hn : t.nomut with
    | true =>
      rw [hn, if_pos rfl] at h
      exact h v H' F [] (st.widen ok) (RepD.sh hn (Rep.any hn rs)) ⟨List.nodup_nil, fun _ k => nomatch k⟩
    | false =>
      rw [hn, if_neg (by decide)] at h
      obtain ⟨l, h1, h3⟩ := rep_list rs
      obtain ⟨l', hd, hm⟩ := nodup_of l
      refine h v H' F l' (st.widen ok) ⟨hn, h3.lift ⟨fun a k => (hm a).2 k, fun _ _ e _ => e⟩, fun a ha => (h1 a ((hm a).1 ha)).2⟩ (own_reg ok st o hd fun a ha => (h1 a ((hm a).1 ha)).1)
theorem ES.up (ok : FOk G F H) {c : Nat} {t : T} (h : ES G F H W c t b') : ES G (fun _ => False) H W c t b' := fun v H' F' st r => h v H' _ (st.widen2 ok) (r.lift ⟨fun _ => .inr, fun _ _ e _ => e⟩)
theorem se_fresh (he : SE X rp call W e A) : SE X rp call W e (.fresh A) := PE.imp he fun σ H Q ⟨G, F, τ, b, pre, h⟩ => by
  have h : Sat (EQ G F H Q) (ES G F H W) (evE rp call A (hideM τ) >>= fun v => R.ok (TM.up v)) b := h
  exact ⟨G, _, hideM τ, b, pre.hideM, ((sat_bind _ _).1 h).imp (fun u b' hu => EQ.up pre.ok hu) fun _ _ _ z => ES.up pre.ok z⟩

/-! ### a display of the names' own things is spoilt -/
theorem hideXF_get (mv : List Nat) : ∀ (n : Nat) (τ : TM.Env) (i : Nat), (hideXF mv n τ)[i]? = (τ[i]?).map fun o => match o with
    | some v => if v.t.nomut || (mv.elem (n + i) && Nat.ble 2 v.lv) then some v else none
    | none => none
  | _, [], i => by simp [hideXF]
  | n, o :: τ, 0 => rfl
  | n, o :: τ, i + 1 => by
    show (hideXF mv (n + 1) τ)[i]? = _
    rw [hideXF_get mv (n + 1) τ i]
    have : n + 1 + i = n + (i + 1) := by omega
    rw [this]; rfl
theorem hideXF_length (mv : List Nat) : ∀ (n : Nat) (τ : TM.Env), (hideXF mv n τ).length = τ.length
  | _, [] => rfl
  | n, o :: τ => congrArg (· + 1) (hideXF_length mv (n + 1) τ)
theorem hideX_get {mv : List Nat} {u : Val} (h : (hideX mv τ)[i]? = some (some u)) : τ[i]? = some (some u) ∧ (u.t.nomut = true ∨ (i ∈ mv ∧ 2 ≤ u.lv)) := by
  unfold hideX at h
  rw [hideXF_get] at h
  cases e : τ[i]? with
  | none => rw [e] at h; cases h
  | some o =>
    rw [e] at h
    cases o with
    | none => cases h
    | some v =>
      simp only [Option.map_some, Option.some.injEq, Nat.zero_add] at h
      split at h
      · rename_i hc
        cases h
        refine ⟨rfl, ?_⟩
        rw [Bool.or_eq_true, Bool.and_eq_true] at hc
        rcases hc with hc | hc
        · exact .inl hc
        · exact .inr ⟨by simpa using hc.1, Nat.le_of_ble_eq_true hc.2⟩
      · cases h
def Fmv (fps : Fps) (mv : List Nat) : Fz := fun a => ∃ i, i ∈ mv ∧ a ∈ fps i
theorem SR.preX (s0 : SInv G b0 H0) (S : SR G F0 H0 F H σ τ b fps) (mv : List Nat) : Pre G (Fmv fps mv) H σ (hideX mv τ) b :=
  ⟨fun a ⟨i, _, k⟩ => ⟨S.novol s0 k, S.there k⟩, S.stp.inv, by unfold hideX; rw [hideXF_length]; exact S.len, fun i u e => by
    obtain ⟨e1, hc⟩ := hideX_get e
    obtain ⟨v, h1, h2⟩ := S.vw i u e1
    refine ⟨v, h1, ?_⟩
    rcases hc with hc | ⟨hm, h3⟩
    · exact (h2.plain hc).1
    · obtain ⟨t, lv⟩ := u
      obtain ⟨l, rfl⟩ : ∃ l, lv = l + 2 := ⟨lv - 2, by dsimp only at h3; omega⟩
      exact h2.reg.lift ⟨fun a k => ⟨i, hm, k⟩, fun _ _ e _ => e⟩⟩
theorem ss_spoilx {mv : List Nat} {k : Nat} {adr : Addr} {fd : FuncData} (hr : Room k X.A) (hgd : X.A.guards = some []) (Fn : FnG X.prog X.w X.K X.mg X.base k adr fd ["thing"] (spSpoil 6)) (hg : Gl X "_law_spoilt") (hm : X.mg "_law_spoilt" = some (.ref adr)) (hk : PySem.W.keepIn X.K (.ref adr) = true) (hb : Binds X.K fd ["thing"] [])
    (he : SE X rp call W e A) (hst : starEach [e] X.env = (false, eval e X.env) :: starEach [] X.env) :
    SS X rp call W (.Expr (.Call (.Name "_law_spoilt" p) [e] [] cpos) pos) (.spoilx mv A) :=
  PS.imp (ps_expr (pe_callG (E := E0) Fn hr hgd hg hm hk hb (pa_cons he pa_nil hst) (by decide +kernel) hst rfl) rfl) fun D σ H ⟨G, F0, H0, b0, F, τ, b, fps, s0, f0, S, h⟩ => by
    have h : Sat (SQ G F0 H0 F H D) (ES G F0 H0 W) (evE rp call A (hideX mv τ) >>= fun v => if (v.t.spo3 && Nat.ble v.t.depth 6) = true then R.ok (Out.nx (wipes mv τ)) else R.stuck) b := h
    refine ⟨G, _, hideX mv τ, b, S.preX s0 mv, ((sat_bind _ _).1 h).imp (fun u b1 hu v H1 F1 fp st r o => ?_) fun c t b' z => ?_⟩
    · obtain ⟨hc, hu⟩ := sat_iteB hu
      rw [Bool.and_eq_true] at hc
      show spSpoil 6 [v] H1 (fun _ H1 => D.nx σ H1) E0
      have st1 : Stp G F H F H1 b1 := ⟨st.ext, fun _ f => f, fun _ f => .inl f, fun a f => by
        obtain ⟨h1, o, h2⟩ := S.stp.ok a f
        exact ⟨h1, o, st.ext a o h2 h1⟩, st.inv⟩
      have S1 := S.step s0 st1
      refine spoil_go r.share hc.1 (Nat.le_of_ble_eq_true hc.2) fun H' l hl hH => ?_
      obtain ⟨fps', S', L⟩ := S1.alterL (mv := mv) s0 (fun a ha => by
        have hf : (∃ i, i ∈ mv ∧ a ∈ fps i) ∨ H a = none := by
          rcases (hl a ha).1 with f | f
          · exact st.new a f
          · exact .inr (o.2 a f).1
        rcases hf with ⟨i, hi, k⟩ | h0
        · exact ⟨((S.own i).2 a k).1, ((S.own i).2 a k).2, (hl a ha).2, fun j hj => by rw [S.dis j i a hj k]; exact hi⟩
        · exact ⟨none_back s0 S.stp.inv S.stp.ext h0, fok_new S.stp.ok h0, (hl a ha).2, fun j hj => by
            obtain ⟨w, e⟩ := S.there hj
            rw [h0] at e; cases e⟩) hH
      exact hu σ H' F _ S' ((st1.lift S.stp.inv S.stp.ok).trans L)
    · intro v H' F' st r
      have st2 : Stp G F H (fun a => F a ∨ (F' a ∧ (H a = none))) H' b' := ⟨st.ext, fun _ f => .inl f, fun a f => f.elim .inl fun k => .inr k.2, fun a f => by
        rcases f with f | f
        · obtain ⟨h1, o, h2⟩ := S.stp.ok a f
          exact ⟨h1, o, st.ext a o h2 h1⟩
        · exact st.ok a f.1, st.inv⟩
      have fin : Stp G F0 H0 (fun a => F a ∨ F' a) H' b' := ⟨S.stp.ext.trans st.ext, fun a f => .inl (S.stp.mono a f), fun a f => by
        rcases f with f | f
        · exact S.stp.new a f
        · rcases st.new a f with ⟨i, hi, k⟩ | h0
          · exact .inr ((S.own i).2 a k).1
          · exact .inr (none_back s0 S.stp.inv S.stp.ext h0), fun a f => by
        rcases f with f | f
        · obtain ⟨h1, o, h2⟩ := S.stp.ok a f
          exact ⟨h1, o, st.ext a o h2 h1⟩
        · exact st.ok a f, st.inv⟩
      exact z v H' _ fin (r.lift ⟨fun _ => .inr, fun _ _ e _ => e⟩)
end
end TM

set_option Elab.async false
set_option linter.all false
set_option maxRecDepth 100000
set_option maxHeartbeats 8000000
namespace TM
open PySem PySem.Spec L2 StX
section
variable {X : Cx} {rp : T → Str} {call : Nat → List T → R Val} {W : XW} {G : Gb} {F F0 F1 : Fz} {H H' H0 H1 : Hp} {b b0 b1 b' : Nat} {σ : St} {τ : TM.Env} {fps : Fps} {pos p p2 apos cpos apos2 cpos2 sp_ : Pos} {i j : Nat} {A B C : E} {e ea eb ec tg tge : Expr} {es : List Expr} {As : Es} {Q : VK} {fz : List Nat}
/-! ### parts laid out -/
theorem RepVs.append : ∀ {vs ws : List V} {us ys : List Val} {fp fp' : List Addr}, RepVs G F H vs us fp → RepVs G F H ws ys fp' → RepVs G F H (vs ++ ws) (us ++ ys) (fp ++ fp')
  | _, _, _, _, _, _, .nil, s => s
  | _, _, _, _, _, _, .cons r rs, s => by
    rw [List.append_assoc]
    exact .cons r (rs.append s)
theorem repVs_rd : ∀ {vs : List V} {us : List T}, Reps G F H vs us → RepVs G F H vs (us.map T.rd) []
  | _, _, .nil => .nil
  | _, _, .cons r rs => RepVs.cons (fp := []) (fp' := []) (repV_rd r) (repVs_rd rs)
theorem es_star {Qs : List V → Hp → Prop} (h : tEs rp call W (.star A As) σ H Qs) : tStar X.K (tE rp call W A) (tEs rp call W As) σ H Qs := by
  obtain ⟨G, F, τ, b, pre, h⟩ := h
  have h : Sat (EQs G F H Qs) (ES G F H W) (evE rp call A τ >>= fun v => seqOf v.t >>= fun xs => evEs rp call As τ >>= fun vs => R.ok (xs.map T.rd ++ vs)) b := h
  refine ⟨G, F, τ, b, pre, ((sat_bind _ _).1 h).imp (fun u b1 hu v H1 F1 fp st r o => ?_) fun _ _ _ z => z⟩
  have rs := r.share
  have st1 := st.freeze pre.inv (fp := fp) (fun a ha => (o.2 a ha).1) r.there
  obtain ⟨t, lv⟩ := u
  have key : ∀ (p : Addr) (vs : List V) (us : List T), v = .ref p → (SqT X.K H1 p vs ∨ SqL X.K H1 p vs) → Reps G (por F1 fp) H1 vs us → Sat (EQs G F H Qs) (ES G F H W) (evEs rp call As τ >>= fun ws => R.ok (us.map T.rd ++ ws)) b1 →
      ∃ p xs, v = V.ref p ∧ (SqT X.K H1 p xs ∨ SqL X.K H1 p xs) ∧ tEs rp call W As σ H1 fun ys H2 => Qs (xs ++ ys) H2 := fun p vs us ev hs q hu => by
    refine ⟨p, vs, ev, hs, G, _, τ, b1, pre.next st1, ((sat_bind _ _).1 hu).imp (fun ws b2 hw ys H2 F2 fp' st2 r2 o2 => ?_) fun _ _ _ z => z.next pre.inv st1⟩
    refine hw (vs ++ ys) H2 F2 ([] ++ fp') (st1.trans pre.inv st2) ((repVs_rd (q.lift (st2.lift st1.inv st1.ok))).append r2) ?_
    rw [List.nil_append]
    exact ⟨o2.1, fun a ha => ⟨none_back pre.inv st1.inv st1.ext (o2.2 a ha).1, (o2.2 a ha).2⟩⟩
  cases t with
  | lst us =>
    obtain ⟨p, vs, rfl, _, e, q⟩ := repLstInv rs
    exact key p vs us rfl (.inr (SqL.of e)) q hu
  | tup us =>
    obtain ⟨p, vs, rfl, e, q⟩ := repTupInv rs
    exact key p vs us rfl (.inl (SqT.of e)) q hu
  | _ => exact hu.elim
theorem sa_star (ha : SE X rp call W e A) (hs : SA X rp call W es As) (hst : starEach (.Starred e sp_ :: es) X.env = (true, eval e X.env) :: starEach es X.env) : SA X rp call W (.Starred e sp_ :: es) (.star A As) :=
  PA.imp (pa_star ha hs hst) fun σ H Q h => es_star h
theorem se_lstS (hs : SA X rp call W es As) : SE X rp call W (.List es pos) (.lstS As) :=
  PE.imp (pe_lst hs) fun σ H Q ⟨G, F, τ, b, pre, h⟩ =>
    ⟨G, F, τ, b, pre, ((sat_bind _ _).1 h).imp (fun us b1 hx vs H1 F1 fp st r o => fin_mkL pre.inv hx st r o) fun _ _ _ z => z⟩
/-! ### ranges by steps -/
theorem rngC_get : ∀ (n : Nat) (lo c : Int) (i : Nat), (rngC lo c n)[i]? = if i < n then some (.int (lo + (i : Nat) * c)) else none
  | 0, lo, c, i => by simp [rngC]
  | n + 1, lo, c, 0 => by simp [rngC]
  | n + 1, lo, c, i + 1 => by
    show (rngC (lo + c) c n)[i]? = _
    rw [rngC_get n (lo + c) c i]
    by_cases h : i < n
    · rw [if_pos h, if_pos (by omega)]
      congr 2
      have e : ((i + 1 : Nat) : Int) * c = (i : Int) * c + c := by rw [Int.natCast_add, Int.add_mul]; simp
      rw [e]; omega
    · rw [if_neg h, if_neg (by omega)]
theorem rngC_length : ∀ (n : Nat) (lo c : Int), (rngC lo c n).length = n
  | 0, _, _ => rfl
  | n + 1, lo, c => congrArg (· + 1) (rngC_length n (lo + c) c)
theorem tw_rngC {lo c : Int} {n : Nat} : TW G F H (Itc lo c n) (rngC lo c n) := by
  intro F' H' b' ok s L
  refine ⟨fun i t h => ?_, by rw [rngC_length]; exact Nat.le_refl _⟩
  rw [rngC_get] at h
  by_cases hi : i < n
  · rw [if_pos hi] at h
    cases h
    refine ⟨hi, fun x H'' ⟨q1, q2⟩ => ?_⟩
    subst q1 q2
    exact ⟨Stp.refl ok s, .int _⟩
  · rw [if_neg hi] at h; cases h
theorem si_rngS (hg : Gl X "range") (hm : X.mg "range" = none) (ha : SE X rp call W ea A) (hb : SE X rp call W eb B) (hc : SE X rp call W ec C) (hs : starEach [ea, eb, ec] X.env = (false, eval ea X.env) :: starEach [eb, ec] X.env) (hs2 : starEach [eb, ec] X.env = (false, eval eb X.env) :: starEach [ec] X.env) (hs3 : starEach [ec] X.env = (false, eval ec X.env) :: starEach [] X.env) :
    SI X rp call W tg (.Call (.Name "range" p) [ea, eb, ec] [] pos) (.rngS A B C) := by
  refine PI.imp (pi_range3 hg hm (pa_cons ha (pa_cons hb (pa_cons hc pa_nil hs3) hs2) hs) hs (by rw [hs2, hs3]; rfl)) fun σ H R ⟨G, F, τ, b, pre, h⟩ => ?_
  refine oneI pre h fun ⟨x, lx⟩ v F1 H1 b1 st1 r1 hx => oneI (pre.next st1) hx fun ⟨y, ly⟩ w F2 H2 b2 st2 r2 hy => oneI ((pre.next st1).next st2) hy fun ⟨z, lz⟩ u F3 H3 b3 st3 r3 hz => ?_
  cases r1 with
  | int i =>
    cases r2 with
    | int j =>
      cases r3 with
      | int c =>
        obtain ⟨⟨h1, h2, h3⟩, hz⟩ := sat_ite hz
        exact ⟨i, j, c, _, rfl, ⟨h1, h2, h3, PyProof.Rows.rangeSize_toNat i j c⟩, hz _ H3 F3 (Stp.refl st3.ok st3.inv) tw_rngC⟩
      | _ => exact hz.elim
    | _ => exact (show False from hz).elim
  | _ => exact (show False from hz).elim
theorem sir_rngS (hg : Gl X "range") (hm : X.mg "range" = none) (ha : SE X rp call W ea A) (hb : SE X rp call W eb B) (hc : SE X rp call W ec C) (hs : starEach [ea, eb, ec] X.env = (false, eval ea X.env) :: starEach [eb, ec] X.env) (hs2 : starEach [eb, ec] X.env = (false, eval eb X.env) :: starEach [ec] X.env) (hs3 : starEach [ec] X.env = (false, eval ec X.env) :: starEach [] X.env) :
    SIr X rp call W tg (.Call (.Name "range" p) [ea, eb, ec] [] pos) (.rngS A B C) := by
  refine PI.imp (pi_range3 hg hm (pa_cons ha (pa_cons hb (pa_cons hc pa_nil hs3) hs2) hs) hs (by rw [hs2, hs3]; rfl)) fun σ H R ⟨G, F, τ, b, pre, h⟩ => ?_
  refine oneIr pre h fun ⟨x, lx⟩ v F1 H1 b1 st1 r1 hx => oneIr (pre.next st1) hx fun ⟨y, ly⟩ w F2 H2 b2 st2 r2 hy => oneIr ((pre.next st1).next st2) hy fun ⟨z, lz⟩ u F3 H3 b3 st3 r3 hz => ?_
  cases r1 with
  | int i =>
    cases r2 with
    | int j =>
      cases r3 with
      | int c =>
        obtain ⟨⟨h1, h2, h3⟩, hz⟩ := sat_ite hz
        exact ⟨i, j, c, _, rfl, ⟨h1, h2, h3, PyProof.Rows.rangeSize_toNat i j c⟩, hz _ H3 F3 (Stp.refl st3.ok st3.inv) tw_rngC⟩
      | _ => exact hz.elim
    | _ => exact (show False from hz).elim
  | _ => exact (show False from hz).elim
/-! ### list(range(..)) -/
theorem reps_rg (lo : Int) : ∀ (n : Nat), Reps G F H ((List.range n).map fun i => V.int (lo + (i : Nat))) (rngT lo n)
  | 0 => .nil
  | n + 1 => by
    rw [List.range_succ_eq_map, List.map_cons, List.map_map]
    have := reps_rg (lo + 1) n
    refine .cons (by simpa using Rep.int lo) ?_
    have e : (List.range n).map ((fun i => V.int (lo + (i : Nat))) ∘ Nat.succ) = (List.range n).map fun i => V.int (lo + 1 + (i : Nat)) := by
      congr 1; funext i
      show V.int (lo + ((i + 1 : Nat) : Int)) = _
      congr 1; omega
    rw [e]
    exact this
theorem fin_rg {a b : Int} (ok : FOk G F H) (s : SInv G b1 H) (ha : a.natAbs < 2 ^ 62) (hb : b.natAbs < 2 ^ 62) (hl : (b - a).toNat ≤ LINE) (h : EQ G F H Q ⟨.lst (rngT a (b - a).toNat), lvl (rngT a (b - a).toNat)⟩ b1) :
    RgOk a b ∧ ∀ q, H q = none → Q (.ref q) (upd H q (.lst (rgV a b))) := by
  unfold LINE at hl
  exact ⟨⟨by omega, by omega, by omega, by omega, by omega⟩, fin_lst h ok s (reps_rg a _)⟩
theorem se_listRg1 (hc : X.calm = true) (hg : Gl X "range") (hm : X.mg "range" = none) (hg2 : Gl X "list") (hm2 : X.mg "list" = none) (ha : SE X rp call W ea A) (hs : starEach [ea] X.env = (false, eval ea X.env) :: starEach [] X.env) :
    SE X rp call W (.Call (.Name "list" p) [.Call (.Name "range" p2) [ea] [] cpos] [] pos) (.lr1 A) :=
  PE.imp (pe_listRg hc hg2 hm2 (prg_1 hg hm ha hs) rfl) fun σ H Q ⟨G, F, τ, b, pre, h⟩ => by
    refine oneV pre h fun ⟨x, lx⟩ v F1 H1 b1 st r hx => ?_
    cases r with
    | int i =>
      obtain ⟨hl, hx⟩ := sat_ite hx
      have e : (i - 0).toNat = i.toNat := by simp
      have hx : EQ G F1 H1 Q ⟨.lst (rngT 0 (i - 0).toNat), lvl (rngT 0 (i - 0).toNat)⟩ b1 := by
        rw [e]
        exact hx
      exact ⟨i, rfl, fin_rg (a := 0) (b := i) st.ok st.inv (by decide) hl.1 (by rw [e]; exact hl.2) hx⟩
    | _ => exact hx.elim
theorem se_listRg2 (hc : X.calm = true) (hg : Gl X "range") (hm : X.mg "range" = none) (hg2 : Gl X "list") (hm2 : X.mg "list" = none) (ha : SE X rp call W ea A) (hb : SE X rp call W eb B) (hs : starEach [ea, eb] X.env = (false, eval ea X.env) :: starEach [eb] X.env) (hs2 : starEach [eb] X.env = (false, eval eb X.env) :: starEach [] X.env) :
    SE X rp call W (.Call (.Name "list" p) [.Call (.Name "range" p2) [ea, eb] [] cpos] [] pos) (.lr2 A B) :=
  PE.imp (pe_listRg hc hg2 hm2 (prg_2 hg hm ha hb hs hs2 (by rw [hs2]; rfl)) rfl) fun σ H Q ⟨G, F, τ, b, pre, h⟩ => by
    refine twoV pre h fun ⟨x, lx⟩ ⟨y, ly⟩ v w F2 H2 b2 st r1 r2 hx => ?_
    cases r1 with
    | int i =>
      cases r2 with
      | int j =>
        obtain ⟨hl, hx⟩ := sat_ite hx
        exact ⟨i, j, rfl, rfl, fin_rg st.ok st.inv hl.1.1 hl.1.2 hl.2 hx⟩
      | _ => exact hx.elim
    | _ => exact hx.elim
/-! ### pop -/
theorem RepDs.erase : ∀ {vs : List V} {us : List T} {fp : List Addr} (k : Nat), RepDs G F H vs us fp → ∃ fpn, RepDs G F H (vs.eraseIdx k) (us.eraseIdx k) fpn ∧ (∀ c ∈ fpn, c ∈ fp) ∧ (fp.Nodup → fpn.Nodup)
  | _, _, _, _, .nil => ⟨[], by simpa using RepDs.nil, fun _ k => k, fun h => h⟩
  | _, _, _, 0, .cons (fp := f1) (fp' := f2) r rs => ⟨f2, rs, fun c hc => List.mem_append_right _ hc, fun h => (List.nodup_append.mp h).2.1⟩
  | _, _, _, k + 1, .cons (fp := f1) (fp' := f2) r rs => by
    obtain ⟨fpn, h1, h2, h3⟩ := RepDs.erase k rs
    refine ⟨f1 ++ fpn, .cons r h1, fun c hc => ?_, fun h => ?_⟩
    · rcases List.mem_append.mp hc with hc | hc
      · exact List.mem_append_left _ hc
      · exact List.mem_append_right _ (h2 c hc)
    · obtain ⟨n1, n2, n3⟩ := List.nodup_append.mp h
      exact List.nodup_append.mpr ⟨n1, h3 n2, fun a ha c hc => n3 a ha c (h2 c hc)⟩
theorem Reps.erase : ∀ {vs : List V} {us : List T} (k : Nat), Reps G F H vs us → Reps G F H (vs.eraseIdx k) (us.eraseIdx k)
  | _, _, _, .nil => by simpa using Reps.nil
  | _, _, 0, .cons r rs => rs
  | _, _, k + 1, .cons r rs => .cons r (Reps.erase k rs)
/-- a part of an owned list, that can't change or is shared -/
theorem part_rep {m k : Nat} {v : V} {ys : List T} {y : T} {fp : List Addr} (hm2 : m < 2) (r : RepV G F H v ⟨.lst ys, m + 1⟩ fp) (hy : ys[k]? = some y) (hc : (y.nomut || Nat.beq m 0) = true) : ∃ a vs w, v = .ref a ∧ H a = some (.lst vs) ∧ vs.length = ys.length ∧ vs[k]? = some w ∧ Rep G F H w y := by
  obtain ⟨a, vs, fp0, rfl, ha, rfl, hr⟩ := repV_own hm2 r
  rcases hr with ⟨rfl, _, q⟩ | ⟨rfl, q⟩
  · obtain ⟨w, h1, h2⟩ := q.get hy
    exact ⟨a, vs, w, rfl, ha, q.length, h1, h2⟩
  · have q2 := RepDs.share (F' := fun _ => True) (fun _ _ => trivial) (fun _ _ => trivial) q
    obtain ⟨w, h1, h2⟩ := q2.get hy
    have hn : y.nomut = true := by
      rcases Bool.or_eq_true_iff.1 hc with h | h
      · exact h
      · cases h
    exact ⟨a, vs, w, rfl, ha, q2.length, h1, h2.any hn⟩
theorem seqIx {n : Int} {k : Nat} (h : 0 ≤ n ∧ n < k) : seqIndex? n k = some n.toNat := by
  have : ¬ n < 0 := by omega
  unfold seqIndex?
  simp [this, h.1, h.2]
/-- a part is taken out of the list that a name owns -/
theorem take_out (s0 : SInv G b0 H0) (S : SR G F0 H0 F H σ τ b fps) {m k : Nat} {ys : List T} {y : T} (hm2 : m < 2) (e : τ[j]? = some (some ⟨.lst ys, m + 1⟩)) (hy : ys[k]? = some y) (hc : (y.nomut || Nat.beq m 0) = true) :
    ∃ a vs w, σ[j]? = some (some (.ref a)) ∧ H a = some (.lst vs) ∧ vs.length = ys.length ∧ vs[k]? = some w ∧ ∃ F3 fps3, SR G F0 H0 F3 (upd H a (.lst (vs.eraseIdx k))) σ (τ.set j (some ⟨.lst (ys.eraseIdx k), if m = 1 then 2 else 1⟩)) b fps3 ∧ Lift G F F3 H (upd H a (.lst (vs.eraseIdx k))) ∧ Rep G F3 (upd H a (.lst (vs.eraseIdx k))) w y := by
  obtain ⟨v, hv, r⟩ := S.vw j _ e
  obtain ⟨a, vs, w, rfl, ha, hl, hw, rw'⟩ := part_rep hm2 r hy hc
  obtain ⟨a2, vs2, ea, ha2, hvl, _, F3, fps3, S3, L3⟩ := grow s0 hm2 S (zs := ys.eraseIdx k) (newV := fun vs => vs.eraseIdx k) (fp := []) (full := true) e hv ⟨List.nodup_nil, (fun _ k => nomatch k), fun _ k => nomatch k⟩ (fun _ k => nomatch k) (fun _ vs fp0 rd _ nd => by
      obtain ⟨fpn, h1, h2, h3⟩ := RepDs.erase k rd
      exact ⟨fpn, h1, fun c hc => .inl (h2 c hc), h3 nd⟩) (fun F3 vs _ _ q => Reps.erase k q)
  cases ea
  rw [ha] at ha2
  cases ha2
  have el : (if m = 1 ∧ True then 2 else 1) = if m = 1 then 2 else 1 := by simp
  exact ⟨a, vs, w, hv, ha, hl, hw, F3, fps3, by simpa using S3, L3, rw'.lift L3⟩
/-- the parts of an owned list are shared from now on -/
theorem lower (s0 : SInv G b0 H0) (S : SR G F0 H0 F H σ τ b fps) {ys : List T} (e : τ[j]? = some (some ⟨.lst ys, 2⟩)) : ∃ F3 fps3, SR G F0 H0 F3 H σ (τ.set j (some ⟨.lst ys, 1⟩)) b fps3 ∧ Lift G F F3 H H := by
  obtain ⟨v, hv, r⟩ := S.vw j _ e
  obtain ⟨a, vs, rfl, ha, _, _, F3, fps3, S3, L3⟩ := grow s0 (l := 1) (by decide) S (zs := ys) (newV := fun vs => vs) (fp := []) (full := false) e hv ⟨List.nodup_nil, (fun _ k => nomatch k), fun _ k => nomatch k⟩ (fun _ k => nomatch k) (fun z => nomatch z) (fun F3 vs _ _ q => q)
  have eh : upd H a (.lst vs) = H := by
    funext c
    by_cases hc : c = a
    · rw [hc, upd_same, ha]
    · rw [upd_ne hc]
  rw [eh] at S3 L3
  have el : (if (1 : Nat) = 1 ∧ false = true then 2 else 1) = 1 := by simp
  rw [el] at S3
  exact ⟨F3, fps3, S3, L3⟩
theorem take_out2 (s0 : SInv G b0 H0) (S : SR G F0 H0 F H σ τ b fps) {m k : Nat} {ys : List T} {y : T} (hm2 : m < 2) (e : τ[j]? = some (some ⟨.lst ys, m + 1⟩)) (hy : ys[k]? = some y) :
    ∃ a vs w, σ[j]? = some (some (.ref a)) ∧ H a = some (.lst vs) ∧ vs.length = ys.length ∧ vs[k]? = some w ∧ ∃ F3 fps3, SR G F0 H0 F3 (upd H a (.lst (vs.eraseIdx k))) σ (τ.set j (some ⟨.lst (ys.eraseIdx k), if m = 1 ∧ y.nomut = true then 2 else 1⟩)) b fps3 ∧ Lift G F F3 H (upd H a (.lst (vs.eraseIdx k))) ∧ Rep G F3 (upd H a (.lst (vs.eraseIdx k))) w y := by
  by_cases hc : (y.nomut || Nat.beq m 0) = true
  · obtain ⟨a, vs, w, h1, h2, h3, h4, F3, fps3, S3, L3, r3⟩ := take_out s0 S hm2 e hy hc
    have el : (if m = 1 then 2 else 1) = if m = 1 ∧ y.nomut = true then 2 else 1 := by
      by_cases hm : m = 1
      · subst hm
        have hn : y.nomut = true := by
          rcases Bool.or_eq_true_iff.1 hc with h | h
          · exact h
          · cases h
        rw [hn]
        simp
      · simp [hm]
    rw [el] at S3
    exact ⟨a, vs, w, h1, h2, h3, h4, F3, fps3, S3, L3, r3⟩
  · have hc : (y.nomut || Nat.beq m 0) = false := Bool.eq_false_iff.2 hc
    rw [Bool.or_eq_false_iff] at hc
    have hm : m = 1 := by
      have : m ≠ 0 := fun z => by rw [z] at hc; cases hc.2
      omega
    subst hm
    obtain ⟨F1, fps1, S1, L1⟩ := lower s0 S e
    have hj : j < τ.length := (List.getElem?_eq_some_iff.mp e).1
    obtain ⟨a, vs, w, h1, h2, h3, h4, F3, fps3, S3, L3, r3⟩ := take_out s0 S1 (m := 0) (by decide) (List.getElem?_set_self hj) hy (by rw [Bool.or_eq_true]; exact .inr rfl)
    rw [List.set_set] at S3
    have el : (if (1 : Nat) = 1 ∧ y.nomut = true then 2 else 1) = if (0 : Nat) = 1 then 2 else 1 := by rw [hc.1]; simp
    rw [el]
    exact ⟨a, vs, w, h1, h2, h3, h4, F3, fps3, S3, L1.trans L3, r3⟩
theorem ss_popv {x : Str} {tg : Tg} (hN : X.N[j]? = some x) (hvi : Vis X.env.scope x) (hd : (x == ("__debug__" : Str)) = false) (hcd : (x == ("__classdict__" : Str)) = false) (hg : PG X tge (gTg X.K tg)) (hline : (apos.endLine == cpos.line) = true)
    (hs : swapsWithSole [tge] (.Call (.Attribute (.Name x p) "pop" apos) [] [] cpos) pos.line X.env = pure false) (hw : swappedStores [tge] (.Call (.Attribute (.Name x p) "pop" apos) [] [] cpos) X.env = pure none) (h1 : (assignEach [tge] X.env).map (·.2) = [assign tge X.env]) :
    SS X rp call W (.Assign [tge] (.Call (.Attribute (.Name x p) "pop" apos) [] [] cpos) pos) (.popv tg j) :=
  PS.imp (ps_asg (pe_bm0 PySem.F.plainAttrs_list PySem.F.slot_list_pop PySem.F.type_list_pop mt_pop (pe_var hN hvi hd hcd) rfl hline) hg hs hw h1) fun D σ H ⟨G, F0, H0, b0, F, τ, b, fps, s0, f0, S, h⟩ => by
    unfold evS at h
    split at h
    · rename_i ys m e
      split at h
      · rename_i y hy
        obtain ⟨hc, h⟩ := sat_iteB h
        obtain ⟨hm2, hlen⟩ := lim_lt (l := m) (m := 0) (n := ys.length) (Nat.le_of_ble_eq_true hc)
        obtain ⟨a, vs, w, hv, ha, hl, hw, F3, fps3, S3, L3, rw'⟩ := take_out2 s0 S hm2 e hy
        have el : vs.dropLast = vs.eraseIdx (ys.length - 1) := by rw [← hl, List.eraseIdx_length_sub_one]
        have el2 : ys.dropLast = ys.eraseIdx (ys.length - 1) := by rw [List.eraseIdx_length_sub_one]
        refine ⟨_, hv, tyV_lst ha, a, vs, w, rfl, rfl, ha, by rw [hl]; exact hw, ?_⟩
        rw [el]
        rw [el2] at h
        have h : Sat (SQ G F0 H0 F H D) (ES G F0 H0 W) (setTg tg y.rd (τ.set j (some ⟨.lst (ys.eraseIdx (ys.length - 1)), if m = 1 ∧ y.nomut = true then 2 else 1⟩)) >>= fun τ' => R.ok (Out.nx τ')) b := h
        refine tgt_store (by unfold T.rd; split <;> exact fun z => nomatch z) S3 (repV_rd rw') fit_nil h fun σ3 τ3 fps4 S4 hq => ?_
        exact hq _ _ _ _ S4 L3
      · exact h.elim
    · exact h.elim
theorem ss_apop {x y : Str} (hNi : X.N[i]? = some x) (hvi : Vis X.env.scope x) (hd : (x == ("__debug__" : Str)) = false) (hcd : (x == ("__classdict__" : Str)) = false) (hNj : X.N[j]? = some y) (hvj : Vis X.env.scope y) (hd2 : (y == ("__debug__" : Str)) = false) (hcd2 : (y == ("__classdict__" : Str)) = false)
    (he : SE X rp call W e A) (hst : starEach [e] X.env = (false, eval e X.env) :: starEach [] X.env) (hline : (apos.endLine == cpos.line) = true) (hline2 : (apos2.endLine == cpos2.line) = true)
    (hfew2 : ((backTo cpos2 (starEach [e] X.env)).all (fun x => !x.1) && (backToKw cpos2 (keywordEach [] X.env)).all (fun x => x.1.isSome) && decide ([e].length + ([] : List Keyword).length + (if ([] : List Keyword).isEmpty then 0 else 1) < 30)) = true) :
    SS X rp call W (.Expr (.Call (.Attribute (.Name x p) "append" apos) [.Call (.Attribute (.Name y p2) "pop" apos2) [e] [] cpos2] [] cpos) pos) (.apop i j A fz) :=
  PS.imp (ps_expr (pe_bm PySem.F.plainAttrs_list PySem.F.slot_list_append PySem.F.type_list_append mt_append (pe_var hNi hvi hd hcd) (pa_cons (pe_bm PySem.F.plainAttrs_list PySem.F.slot_list_pop PySem.F.type_list_pop mt_popAt (pe_var hNj hvj hd2 hcd2) (pa_cons he pa_nil hst) rfl hfew2 hline2 hst rfl) pa_nil rfl) rfl rfl hline rfl rfl) rfl) fun D σ H ⟨G, F0, H0, b0, F, τ, b, fps, s0, f0, S, h⟩ => by
    obtain ⟨hl, h⟩ := sat_iteB (show Sat _ _ (if (lstAt τ i && (lstAt τ j && !(Nat.beq i j))) = true then _ else R.stuck) b from h)
    rw [Bool.and_eq_true, Bool.and_eq_true] at hl
    obtain ⟨hli, hlj, hij⟩ := hl
    have hij : i ≠ j := fun z => by subst z; simp at hij
    obtain ⟨us0, l0, e0⟩ := lstAt_get hli
    obtain ⟨us1, l1, e1⟩ := lstAt_get hlj
    obtain ⟨v, hv, r0⟩ := S.vw i _ e0
    obtain ⟨a0, vs0, rfl, ha0⟩ := repV_lst r0
    obtain ⟨v1, hv1, r1⟩ := S.vw j _ e1
    obtain ⟨a1, vs1, rfl, ha1⟩ := repV_lst r1
    refine ⟨_, hv, tyV_lst ha0, _, hv1, tyV_lst ha1, ?_⟩
    refine ⟨G, _, hide fz τ, b, S.preH s0 fz, ((sat_bind _ _).1 h).imp (fun u b1 hu y H1 F1 fp st r o => ?_) fun _ _ _ z => z.see s0 S⟩
    obtain ⟨F2, fps2, S2, L, r2, ft, _⟩ := S.afterV s0 st r o
    dsimp only at hu
    split at hu
    · rename_i xs l ys m n ei ej en
      split at hu
      · rename_i yt hyt
        obtain ⟨hc, hu⟩ := sat_iteB hu
        simp only [Bool.and_eq_true, decide_eq_true_eq] at hc
        obtain ⟨⟨⟨hn0, hn1, hn3⟩, hc2⟩, hc3⟩ := hc
        obtain ⟨hm2, hn2⟩ := lim_lt (l := m) (m := n.toNat) (n := ys.length) (by omega)
        obtain ⟨hl2, hlen⟩ := lim_lt (Nat.le_of_ble_eq_true hc3)
        have ey : y = .int n := by
          have := r2.share
          rw [en] at this
          exact repIntInv this
        subst ey
        obtain ⟨a, vs, w, hv2, ha, hvl, hw, F3, fps3, S3, L3, rw'⟩ := take_out s0 S2 hm2 ej hyt hc2
        rw [hv1] at hv2
        cases hv2
        refine ⟨_, vs, n, n.toNat, w, rfl, rfl, ha, by omega, by omega, seqIx ⟨hn0, by omega⟩, hw, ?_⟩
        have ei3 : (after fz u τ |>.set j (some ⟨.lst (ys.eraseIdx n.toNat), if m = 1 then 2 else 1⟩))[i]? = some (some ⟨.lst xs, l + 1⟩) := by rw [List.getElem?_set_ne hij.symm]; exact ei
        obtain ⟨a3, vs3, ea3, ha3, hvl3, _, F4, fps4, S4, L4⟩ := grow s0 hl2 S3 (zs := xs ++ [yt]) (newV := fun vs => vs ++ [w]) (fp := []) (full := yt.nomut) ei3 hv ⟨List.nodup_nil, (fun _ k => nomatch k), fun _ k => nomatch k⟩ (fun _ k => nomatch k) (fun q vs fp0 rd dis nd => by
            have rr := rd.app (RepDs.cons (RepD.sh q rw') .nil)
            rw [List.append_nil] at rr
            exact ⟨_, rr, fun c hc => List.mem_append.mp hc, by rw [List.append_nil]; exact nd⟩) (fun F5 vs h1 h2 q => q.append (.cons (rw'.lift ⟨h1, fun _ _ e _ => e⟩) .nil))
        cases ea3
        refine ⟨_, _, _, rfl, rfl, ha3, by rw [hvl3, line_eq]; exact hlen, ?_⟩
        exact hu _ _ _ _ S4 ((L.trans L3).trans L4)
      · exact hu.elim
    · exact hu.elim
end
end TM

set_option Elab.async false
set_option linter.all false
set_option maxRecDepth 100000
set_option maxHeartbeats 8000000
namespace TM
open PySem PySem.Spec L2
section
variable {X : Cx} {rp : T → Str} {call : Nat → List T → R Val} {W : XW} {G : Gb} {F F0 F1 : Fz} {H H' H0 H1 : Hp} {b b0 b1 b' : Nat} {σ : St} {τ : TM.Env} {fps : Fps} {pos ip : Pos} {A B C : E} {ea eb ec tge : Expr} {tg : Tg} {sts : List Stmt} {ss : Ss} {fz : List Nat}
theorem seq_read {K : PySem.W.Frag} {R : L2.It → Hp → Prop} (h : tI rp call W (.seq A) σ H R) : iSeq K (tE rp call W A) σ H R := by
  obtain ⟨G, F, τ, b, pre, h⟩ := h
  refine oneI pre h fun ⟨x, lx⟩ v F1 H1 b1 st r hx => ?_
  cases r with
  | lst f e q1 => exact ⟨_, rfl, .inl ⟨⟨_, SqL.of e⟩, hx _ H1 F1 (Stp.refl st.ok st.inv) (tw_list f e q1)⟩⟩
  | tup e q1 => exact ⟨_, rfl, .inr ⟨⟨_, SqT.of e⟩, hx _ H1 F1 (Stp.refl st.ok st.inv) (tw_tup e q1)⟩⟩
  | _ => exact hx.elim
theorem fori_go {K : PySem.W.Frag} {D : Ends} {b1 : Nat} (s0 : SInv G b0 H0) (f0 : FOk G F0 H0) (S1 : SR G F0 H0 F1 H1 σ τ b1 fps) (h1 : Sat (SQ G F0 H0 F1 H1 D) (ES G F0 H0 W) (evI rp call (.seq A) (hide fz τ) >>= fun xs => forT (stepF rp call tg ss) xs (frz fz τ)) b1) :
    tFor (iSeq K (tE rp call W A)) (gTg K tg) (tSs rp call W ss) D σ H1 :=
  seq_read (K := K) ⟨G, _, hide fz τ, b1, S1.preH s0 fz, ((sat_bind _ _).1 h1).imp (fun xs b2 hx J H2 F2 st2 tw => for_read s0 f0 (S1.frozen s0 st2) tw Lift.refl (hx.imp (fun _ _ z => SQ.lift (S1.frozenLift s0 st2) z) fun _ _ _ z => z)) fun _ _ _ z => z.see s0 S1⟩
/-- over one of two things: what it is told by stands as it is -/
theorem ss_fori (hp : PassesOwn (model X.prog X.w) X.A X.env X.xe) (hc : X.calm = true) (hcc : SC X rp call W ec C) (ha : SE X rp call W ea A) (hb : SE X rp call W eb B) (hg : PG X tge (gTg X.K tg)) (hbd : SSs X rp call W sts ss) :
    SS X rp call W (.For tge (.IfExp ec ea eb ip) sts [] pos) (.fori tg C A B ss fz) :=
  PS.imp (ps_for hp hc (pi_seq (pe_ifExp hcc ha hb)) hg hbd (fun _ => rfl)) fun D σ H ⟨G, F0, H0, b0, F, τ, b, fps, s0, f0, S, h⟩ => by
    have e : evS rp call (.fori tg C A B ss fz) τ = ((evE rp call C τ >>= fun v => truthy v.t) >>= fun r => match r with
      | true => (evI rp call (.seq A) (hide fz τ) >>= fun xs => forT (stepF rp call tg ss) xs (frz fz τ))
      | false => (evI rp call (.seq B) (hide fz τ) >>= fun xs => forT (stepF rp call tg ss) xs (frz fz τ))) := by
      rw [bind_assoc]; rfl
    rw [e] at h
    refine ⟨G, _, τ, b, S.pre s0, ((sat_bind _ _).1 h).imp (fun c b1 hc H1 F1 st => ?_) fun _ _ _ z => z.see s0 S⟩
    cases c
    · refine (if_neg (by decide)).mpr ?_
      exact fori_go s0 f0 (S.behind s0 st) (hc.imp (fun _ _ z => SQ.lift (S.behindLift s0 st) z) fun _ _ _ z => z)
    · refine (if_pos rfl).mpr ?_
      exact fori_go s0 f0 (S.behind s0 st) (hc.imp (fun _ _ z => SQ.lift (S.behindLift s0 st) z) fun _ _ _ z => z)
end
end TM

set_option Elab.async false
set_option linter.all false
set_option maxRecDepth 100000
set_option maxHeartbeats 8000000
namespace TM
open PySem PySem.Spec L2
section
variable {X : Cx} {rp : T → Str} {call : Nat → List T → R Val} {W : XW} {G : Gb} {F F0 F1 : Fz} {H H' H0 H1 : Hp} {b b0 b1 b' : Nat} {σ : St} {τ : TM.Env} {pos : Pos}
/-! ### a dict's display, its keys numbers -/
def dTr (rp : T → Str) (call : Nat → List T → R Val) (W : XW) : List Int → Es → List (TE × TE)
  | i :: is, .cons A As => (tE rp call W (.cst (.int i)), tE rp call W A) :: dTr rp call W is As
  | _, _ => []
def esLen : Es → Option Nat
  | .nil => some 0
  | .cons _ es => (esLen es).map (· + 1)
  | .star _ _ => none
theorem int_read {i : Int} {R : V → Hp → Prop} (pre : Pre G F H σ τ b) (k : ∀ F1 H1, Stp G F H F1 H1 b → R (.int i) H1) : tE rp call W (.cst (.int i)) σ H R :=
  ⟨G, F, τ, b, pre, show EQ G F H R ⟨.int i, 2⟩ b from fun v H1 F1 fp st r o => by
    have := r.share
    cases this
    exact k F1 H1 st⟩
theorem pairs_go : ∀ (is : List Int) (Bs : Es) {G : Gb} {F : Fz} {H : Hp} {τ : TM.Env} {b : Nat} {Qb : List Val → Nat → Prop} {Eb : Nat → T → Nat → Prop} {Rq : List (V × V) → Hp → Prop}, esLen Bs = some is.length → Pre G F H σ τ b →
    Sat Qb Eb (evEs rp call Bs τ) b → (∀ c t b', Eb c t b' → ES G F H W c t b') →
    (∀ ws vs F1 H1 b1, Stp G F H F1 H1 b1 → Reps G F1 H1 vs (ts ws) → Qb ws b1 → vs.length = is.length → Rq (List.zipWith (fun i v => (V.int i, v)) is vs) H1) → tPairs (dTr rp call W is Bs) σ H Rq
  | [], .nil, G, F, H, τ, b, Qb, Eb, Rq, _, pre, h, he, k => k [] [] F H b (Stp.refl pre.ok pre.inv) .nil h rfl
  | i :: is, .cons A As, G, F, H, τ, b, Qb, Eb, Rq, hl, pre, h, he, k => by
    have hl : esLen As = some is.length := by
      have : (esLen As).map (· + 1) = some (is.length + 1) := hl
      cases e : esLen As with
      | none => rw [e] at this; cases this
      | some n =>
        rw [e] at this
        have t2 : n + 1 = is.length + 1 := Option.some.inj this
        congr 1
        omega
    have h : Sat Qb Eb (evE rp call A τ >>= fun v => evEs rp call As τ >>= fun vs => R.ok (v :: vs)) b := h
    show tE rp call W (.cst (.int i)) σ H fun x H1 => tE rp call W A σ H1 fun y H2 => tPairs (dTr rp call W is As) σ H2 fun ps H3 => Rq ((x, y) :: ps) H3
    refine int_read pre fun F1 H1 st1 => ?_
    refine one (pre.next st1) h (fun c t b' z => (he c t b' z).next pre.inv st1) fun x v F2 H2 b2 st2 r2 hx => ?_
    exact pairs_go is As hl ((pre.next st1).next st2) ((sat_bind _ _).1 hx) (fun c t b' z => ((he c t b' z).next pre.inv st1).next st1.inv st2) fun ws vs F3 H3 b3 st3 r3 hq hl3 => k (x :: ws) (v :: vs) F3 H3 b3 (st1.trans pre.inv (st2.trans st1.inv st3)) (.cons (r2.lift (st3.lift st2.inv st2.ok)) r3) hq (by simp [hl3])
  | [], .cons _ As, _, _, _, _, _, _, _, _, hl, _, _, _, _ => by
    have : (esLen As).map (· + 1) = some 0 := hl
    cases e : esLen As with
    | none => rw [e] at this; cases this
    | some n =>
      rw [e] at this
      have t2 : n + 1 = 0 := Option.some.inj this
      omega
  | _ :: _, .nil, _, _, _, _, _, _, _, _, hl, _, _, _, _ => nomatch hl
  | [], .star _ _, _, _, _, _, _, _, _, _, hl, _, _, _, _ => nomatch hl
  | _ :: _, .star _ _, _, _, _, _, _, _, _, _, hl, _, _, _, _ => nomatch hl
theorem mergeK_new : ∀ (is : List Int) (vs : List V) (acc : List (Key × V)), is.Nodup → (∀ i ∈ is, ∀ p ∈ acc, p.1 ≠ .inl i) → mergeK acc (List.zipWith (fun i v => ((Sum.inl i : Key), v)) is vs) = acc ++ List.zipWith (fun i v => ((Sum.inl i : Key), v)) is vs
  | [], _, acc, _, _ => (List.append_nil acc).symm
  | _ :: _, [], acc, _, _ => (List.append_nil acc).symm
  | i :: is, v :: vs, acc, nd, hd => by
    obtain ⟨h1, h2⟩ := List.nodup_cons.1 nd
    have e : putK acc (Sum.inl i) v = acc ++ [((Sum.inl i : Key), v)] := by
      unfold putK
      rw [if_neg]
      rw [Bool.not_eq_true, List.any_eq_false]
      intro p hp
      rw [decide_eq_true_eq]
      exact hd i List.mem_cons_self p hp
    show mergeK (putK acc (Sum.inl i) v) (List.zipWith (fun i v => ((Sum.inl i : Key), v)) is vs) = _
    rw [e, mergeK_new is vs _ h2 fun j hj p hp => by
      rcases List.mem_append.1 hp with hp | hp
      · exact hd j (List.mem_cons_of_mem _ hj) p hp
      · rw [List.mem_singleton.1 hp]
        intro z
        injection z with z
        exact h1 (z ▸ hj), List.append_assoc]
    rfl
theorem zip_keys : ∀ (is : List Int) (vs : List V), vs.length = is.length → (List.zipWith (fun i v => ((Sum.inl i : Key), v)) is vs).map (fun p => keyT p.1) = is.map T.int ∧ (List.zipWith (fun i v => ((Sum.inl i : Key), v)) is vs).map (·.2) = vs
  | [], [], _ => ⟨rfl, rfl⟩
  | i :: is, v :: vs, h => by
    obtain ⟨a, c⟩ := zip_keys is vs (by simpa using h)
    exact ⟨congrArg (T.int i :: ·) a, congrArg (v :: ·) c⟩
  | [], _ :: _, h => nomatch h
  | _ :: _, [], h => nomatch h
theorem se_disp {a bs : Es} {i : Int} {is : List Int} {keys : List (Option Expr)} {vals : List Expr} (hk : keysOf a = some (i :: is)) (hlen : esLen bs = some (i :: is).length) (h : PPs X pos keys vals (dTr rp call W (i :: is) bs)) (hall : keys.all (·.isSome) = true) (hl : keys.length = vals.length) (h0 : keys ≠ [])
    (h15 : keys.length ≤ 15) : SE X rp call W (.Dict keys vals pos) (.dsp a bs) :=
  PE.imp (pe_disp h hall hl h0 h15) fun σ H Q ⟨G, F, τ, b, pre, hs⟩ p hp => by
    have st0 : Stp G F H F (upd H p (.dK [])) b := stp_new pre.ok pre.inv hp
    have e : evE rp call (.dsp a bs) τ = (evEs rp call bs τ >>= fun ws => if (i :: is).length = ws.length ∧ (i :: is).length ≤ 15 ∧ (i :: is).Nodup then R.ok ⟨.dct ((i :: is).map .int) (ts ws), 0⟩ else R.stuck) := by
      unfold evE
      rw [hk]
    rw [e] at hs
    refine pairs_go (i :: is) bs hlen (pre.next st0) ((sat_bind _ _).1 hs) (fun c t b' z => z.next pre.inv st0) fun ws vs F2 H2 b2 st r hq hlv => ?_
    obtain ⟨⟨c1, c2, c3⟩, hq⟩ := sat_ite hq
    have nv : ¬ vol G p := not_vol_of_none pre.inv hp
    have e2 : H2 p = some (.dK []) := st.ext p _ upd_same nv
    obtain ⟨z1, z2⟩ := zip_keys (i :: is) vs hlv
    have nF2 : ¬ F2 p := fun f => by
      rcases st.new p f with f | f
      · obtain ⟨_, o, ho⟩ := pre.ok p f
        rw [hp] at ho; cases ho
      · rw [upd_same] at f; cases f
    refine ⟨e2, List.zipWith (fun i v => ((Sum.inl i : Key), v)) (i :: is) vs, ?_, ?_, ?_⟩
    · rw [List.map_zipWith]
      rfl
    · rw [List.length_zipWith]
      exact Nat.le_trans (Nat.min_le_left _ _) c2
    · rw [mergeK_new _ _ [] c3 (fun _ _ _ k => nomatch k), List.nil_append]
      generalize hkv : List.zipWith (fun i v => ((Sum.inl i : Key), v)) (i :: is) vs = kvs at z1 z2 ⊢
      have ext2 : Ext G H (upd H2 p (.dK kvs)) := fun a o ha hv => by
        have hne : a ≠ p := fun z => by rw [z, hp] at ha; cases ha
        rw [upd_ne hne]
        exact st.ext a o (by rw [upd_ne hne]; exact ha) hv
      have inv3 : SInv G b2 (upd H2 p (.dK kvs)) := by
        have := st.inv
        cases G with
        | none => trivial
        | some q =>
          obtain ⟨x, l⟩ := q
          obtain ⟨hne, ns, i1, j1, k1, h1, h2, h3⟩ := this
          have n1 : x ≠ p := fun z => nv (by rw [← z]; exact .inl rfl)
          have n2 : l ≠ p := fun z => nv (by rw [← z]; exact .inr rfl)
          exact ⟨hne, ns, i1, j1, k1, by rw [upd_ne n1]; exact h1, by rw [upd_ne n2]; exact h2, h3⟩
      have st3 : Stp G F H (fun a => F2 a ∨ a = p) (upd H2 p (.dK kvs)) b2 := ⟨ext2, fun a f => .inl (st.mono a f), fun a f => by
        rcases f with f | f
        · rcases st.new a f with f | f
          · exact .inl f
          · by_cases hne : a = p
            · rw [hne]; exact .inr hp
            · rw [upd_ne hne] at f; exact .inr f
        · rw [f]; exact .inr hp, fun a f => by
        rcases f with f | f
        · obtain ⟨g1, o, g2⟩ := st.ok a f
          have hne : a ≠ p := fun z => nF2 (z ▸ f)
          exact ⟨g1, o, by rw [upd_ne hne]; exact g2⟩
        · rw [f]; exact ⟨nv, _, upd_same⟩, inv3⟩
      have r3 : Reps G (fun a => F2 a ∨ a = p) (upd H2 p (.dK kvs)) vs (ts ws) := r.lift ⟨fun _ f => .inl f, fun a o ha hc => by
        have hne : a ≠ p := fun z => by
          subst z
          rcases hc with f | ⟨xs, rfl⟩
          · exact nF2 f
          · rw [e2] at ha; cases ha
        rw [upd_ne hne]; exact ha⟩
      rw [← z2] at r3
      have rr := Rep.dct (G := G) (F := fun a => F2 a ∨ a = p) (H := upd H2 p (.dK kvs)) (a := p) (.inr rfl) upd_same r3
      rw [z1] at rr
      exact hq (.ref p) _ _ [] st3 (repV_rd rr) ⟨List.nodup_nil, fun _ k => nomatch k⟩
end
end TM

set_option Elab.async false
set_option linter.all false
set_option maxRecDepth 100000
set_option maxHeartbeats 4000000
namespace TM
open PySem PySem.Spec L2

/-! ### what a text is to look like: quick tests -/
def nlEq : List Nat → List Nat → Bool
  | [], [] => true
  | a :: as, b :: bs => Nat.beq a b && nlEq as bs
  | _, _ => false
theorem nlEq_iff : ∀ {a b : List Nat}, nlEq a b = true ↔ a = b
  | [], [] => by simp [nlEq]
  | [], _ :: _ => by simp [nlEq]
  | _ :: _, [] => by simp [nlEq]
  | a :: as, b :: bs => by simp [nlEq, nlEq_iff (a := as) (b := bs), Nat.beq_eq_true_eq]
def seq (a b : Str) : Bool := nlEq a.cps.toList b.cps.toList
theorem seq_iff {a b : Str} : seq a b = true ↔ a = b := by
  obtain ⟨⟨x⟩⟩ := a
  obtain ⟨⟨y⟩⟩ := b
  unfold seq
  rw [nlEq_iff]
  simp
theorem seq_eq {a b : Str} (h : seq a b = true) : a = b := seq_iff.1 h
theorem seq_ne {a b : Str} (h : seq a b = false) : (a == b) = false := by
  cases e : a == b with
  | false => rfl
  | true =>
    have := eq_of_beq e
    subst this
    rw [seq_iff.2 rfl] at h; cases h
theorem seq_beq (a b : Str) : (a == b) = seq a b := by
  cases e : seq a b with
  | false => exact seq_ne e
  | true => rw [seq_eq e]; exact beq_self_eq_true b
def look : List (Str × NameKind) → Str → Option NameKind
  | [], _ => none
  | (n, k) :: r, x => match seq x n with
    | true => some k
    | false => look r x
theorem look_eq : ∀ (l : List (Str × NameKind)) (x : Str), look l x = l.lookup x
  | [], _ => rfl
  | (n, k) :: r, x => by
    show (match seq x n with | true => some k | false => look r x) = (match x == n with | true => some k | false => r.lookup x)
    rw [seq_beq, look_eq r x]
abbrev Nms := List (Str × NameKind)
def isLoc : Option NameKind → Bool
  | some .local => true
  | _ => false
def isCel : Option NameKind → Bool
  | some .cell => true
  | _ => false
def isFre : Option NameKind → Bool
  | some .free => true
  | _ => false
def isGlo : Option NameKind → Bool
  | some .globalImplicit => true
  | _ => false
def relN (names nms : Nms) : Nms := names.map fun (n, k) => if isFre (some k) && isCel (look nms n) then (n, .cell) else (n, k)
def atN (N : List Str) (i : Nat) (x : Str) : Bool := match N[i]? with
  | some y => seq y x
  | none => false
theorem atN_eq {N : List Str} {i : Nat} {x : Str} (h : atN N i x = true) : N[i]? = some x := by
  unfold atN at h
  split at h
  · rename_i y e; rw [e, seq_eq h]
  · cases h
def visB (nms : Nms) (x : Str) : Bool := isLoc (look nms x) || (isCel (look nms x) || isFre (look nms x))
def varB (N : List Str) (nms : Nms) (i : Nat) (x : Str) : Bool := atN N i x && visB nms x
/-- may be stored to: cel tells whose cells were made here -/
def stoB (N : List Str) (nms : Nms) (cel : Str → Bool) (i : Nat) (x : Str) : Bool := atN N i x && (isLoc (look nms x) || (isCel (look nms x) && cel x))
def tgsB (N : List Str) (nms : Nms) (cel : Str → Bool) : List Nat → List Expr → Bool
  | [], [] => true
  | i :: is, e :: es => (match e with | .Name x _ => stoB N nms cel i x | _ => false) && tgsB N nms cel is es
  | _, _ => false
def tgB (N : List Str) (nms : Nms) (cel : Str → Bool) : Tg → Expr → Bool
  | .nm i, e => match e with | .Name x _ => stoB N nms cel i x | _ => false
  | .tp is, e => match e with | .Tuple es _ _ => tgsB N nms cel is es | _ => false
def cstB : T → Const → Bool
  | .int i, .int j => decide (i = j)
  | .bl i, .bool j => i == j
  | .non, .none => true
  | .str x, .str y => seq x y
  | _, _ => false
def binB : BOp → Operator → Bool
  | .add, .Add => true
  | .sub, .Sub => true
  | .mul, .Mult => true
  | .fdiv, .FloorDiv => true
  | .mod, .Mod => true
  | .pow, .Pow => true
  | _, _ => false
def cmpB : COp → CmpOp → Bool
  | .eq, .Eq | .ne, .NotEq | .lt, .Lt | .le, .LtE | .gt, .Gt | .ge, .GtE | .is, .Is | .nis, .IsNot | .isin, .In | .nisin, .NotIn => true
  | _, _ => false
theorem cmpB_eq {o : COp} {op : CmpOp} (h : cmpB o op = true) : op = opOf o := by cases o <;> cases op <;> first | rfl | cases h
def notSet : Expr → Bool
  | .Set .. => false
  | _ => true
def noStar : Expr → Bool
  | .Starred .. => false
  | _ => true
def plainT : Expr → Bool
  | .UnaryOp .Not _ _ => false
  | .BoolOp .. => false
  | .IfExp .. => false
  | .Compare .. => false
  | _ => true
def notComp : Expr → Bool
  | .ListComp .. => false
  | .SetComp .. => false
  | .DictComp .. => false
  | _ => true
def notTup : Expr → Bool
  | .Tuple .. => false
  | _ => true
def strip (op : BoolOp) (b : Expr) (rest : List Expr) (pos : Pos) : Expr := match rest with
  | [] => b
  | _ :: _ => .BoolOp op (b :: rest) pos
def tst : E → Bool
  | .ite _ _ _ => false
  | .and a b => tst a && tst b
  | .or a b => tst a && tst b
  | .not a => tst a
  | _ => true
def spc : E → Bool
  | .ite _ _ _ => true
  | .and _ _ => true
  | .or _ _ => true
  | .not _ => true
  | .cmp _ _ _ => true
  | .chain _ _ _ _ _ => true
  | .bad => true
  | _ => false
def glB (nms : Nms) (x : Str) : Bool := isGlo (look nms x)
def tyB (nms : Nms) (c : Ty) : Expr → Bool
  | .Name x _ => seq x (tyName c) && glB nms x
  | _ => false
def tysB (nms : Nms) : List Ty → List Expr → Bool
  | [], [] => true
  | c :: cs, e :: es => tyB nms c e && tysB nms cs es
  | _, _ => false
def isiB (nms : Nms) (cs : List Ty) (c : Expr) : Bool := match cs, c with
  | [t], .Name x p => tyB nms t (.Name x p)
  | t :: ts, .Tuple es _ _ => Nat.ble (t :: ts).length LINE && tysB nms (t :: ts) es
  | _, _ => false
def ownL (N : List Str) : List Nat → List (Str × Nat)
  | [] => []
  | i :: is => ((N[i]?).getD "", i) :: ownL N is
theorem ownL_snd (N : List Str) : ∀ is, (ownL N is).map (·.2) = is
  | [] => rfl
  | i :: is => by show i :: (ownL N is).map (·.2) = _; rw [ownL_snd N is]
def memS (x : Str) : List Str → Bool
  | [] => false
  | y :: ys => seq x y || memS x ys
theorem memS_iff {x : Str} : ∀ {l : List Str}, memS x l = true ↔ x ∈ l
  | [] => by simp [memS]
  | y :: ys => by simp [memS, seq_iff, memS_iff (l := ys)]
def isFun : ScopeKind → Bool
  | .function => true
  | _ => false
def blkB (N : List Str) (nms : Nms) (scope : Scope) (own : List Nat) : Bool :=
  isFun scope.kind && ((scope.names.all fun y => match look scope.names y.1, y.2 with | some .local, .local => true | some .cell, .cell => true | some .free, .free => true | some .globalImplicit, .globalImplicit => true | _, _ => false) &&
    ((own.all fun i => match N[i]? with | some _ => true | none => false) &&
     (scope.names.all fun y => match y.2 with
      | .free => isCel (look nms y.1) || isFre (look nms y.1)
      | .local => memS y.1 ((ownL N own).map (·.1)) || !(memS y.1 N)
      | .cell => memS y.1 ((ownL N own).map (·.1)) || !(memS y.1 N)
      | _ => true)))
def entB (P : List Ent) (nms : Nms) (f : Nat) (nm : Str) : Bool := match P[f]? with
  | some en => seq en.nm nm && (glB nms nm && (wfE en && !(seq nm "__debug__")))
  | none => false
def nmsEq : List Str → List Keyword → Bool
  | [], [] => true
  | k :: ks, w :: ws => (match w with | ⟨some x, _, _⟩ => seq x k | _ => false) && nmsEq ks ws
  | _, _ => false
def ktB (P : List Ent) (f np : Nat) (pm : List Nat) (kws : List Keyword) : Bool := match P[f]? with
  | some en => en.kts.any fun kt => Nat.beq kt.1 np && (nlEq kt.2.2 pm && (nmsEq kt.2.1 kws && (kt.2.2.all fun i => Nat.blt i (np + kt.2.1.length))))
  | none => false
def subL (a b : List Nat) : Bool := a.all fun i => b.any fun j => Nat.beq i j

/-- list(range(..)): the arguments -/
def lrIn (nms : Nms) : Expr → Option (List Expr)
  | .Call (.Name g _) as [] _ => if seq g "range" && glB nms g then some as else none
  | _ => none
def lrArgs (nms : Nms) : Expr → Option (List Expr)
  | .Call (.Name f _) [x] [] _ => if seq f "list" && glB nms f then lrIn nms x else none
  | _ => none
theorem lrIn_eq {nms : Nms} {e : Expr} {as : List Expr} (h : lrIn nms e = some as) : ∃ p pos, e = .Call (.Name "range" p) as [] pos ∧ glB nms "range" = true := by
  unfold lrIn at h
  split at h
  · rename_i g p as' pos
    split at h
    · rename_i hc
      rw [Bool.and_eq_true] at hc
      cases h
      have := seq_eq hc.1
      subst this
      exact ⟨p, pos, rfl, hc.2⟩
    · cases h
  · cases h
theorem lrArgs_eq {nms : Nms} {e : Expr} {as : List Expr} (h : lrArgs nms e = some as) : ∃ p pos p2 cpos, e = .Call (.Name "list" p) [.Call (.Name "range" p2) as [] cpos] [] pos ∧ glB nms "list" = true ∧ glB nms "range" = true := by
  unfold lrArgs at h
  split at h
  · rename_i f p x pos
    split at h
    · rename_i hc
      rw [Bool.and_eq_true] at hc
      have := seq_eq hc.1
      subst this
      obtain ⟨p2, cpos, rfl, h2⟩ := lrIn_eq h
      exact ⟨p, pos, p2, cpos, rfl, hc.2, h2⟩
    · cases h
  · cases h
def keysB : Es → List (Option Expr) → Bool
  | .nil, ks => match ks with
    | [] => true
    | _ => false
  | .cons A es, ks => match ks with
    | some (.Constant (.int j) _ _) :: ks => (match A with | .cst (.int i) => decide (i = j) | _ => false) && keysB es ks
    | _ => false
  | .star _ _, _ => false
section
variable (N : List Str) (P : List Ent)
mutual
def chkE : E → Nms → Expr → Bool
  | .var i, nms, e => match e with
    | .Name x _ => varB N nms i x
    | _ => false
  | .cst t, _, e => match e with
    | .Constant c _ _ => cstB t c
    | _ => false
  | .bin o A B, nms, e => match e with
    | .BinOp a op b _ => binB o op && (chkE A nms a && chkE B nms b)
    | _ => false
  | .neg A, nms, e => match e with
    | .UnaryOp .USub a _ => chkE A nms a
    | _ => false
  | .not A, nms, e => match e with
    | .UnaryOp .Not a _ => chkE A nms a
    | _ => false
  | .and A B, nms, e => match e with
    | .BoolOp .And (a :: b :: rest) pos => chkE A nms a && chkE B nms (strip .And b rest pos)
    | _ => false
  | .or A B, nms, e => match e with
    | .BoolOp .Or (a :: b :: rest) pos => chkE A nms a && chkE B nms (strip .Or b rest pos)
    | _ => false
  | .cmp o A B, nms, e => match e with
    | .Compare a [op] [b] _ => (cmpB o op && notSet b) && (chkE A nms a && chkE B nms b)
    | _ => false
  | .chain o o' A B C, nms, e => match e with
    | .Compare a [op, op'] [b, c] _ => (cmpB o op && (cmpB o' op' && notSet c)) && (chkE A nms a && (chkE B nms b && chkE C nms c))
    | _ => false
  | .ite C A B, nms, e => match e with
    | .IfExp c a b _ => (tst C && chkE C nms c) && (chkE A nms a && chkE B nms b)
    | _ => false
  | .dsp a b, nms, e => match e with
    | .Dict ks vs _ => (keysB a ks && (Nat.beq ks.length vs.length && Nat.ble ks.length 15)) && chkEs b nms vs
    | _ => false
  | .lst es, nms, e => match e with
    | .List l _ => chkEs es nms l
    | _ => false
  | .tup es, nms, e => match e with
    | .Tuple l _ _ => Nat.ble l.length 1000 && chkEs es nms l
    | _ => false
  | .idx A B, nms, e => match e with
    | .Subscript a b _ => notSlice b && (chkE A nms a && chkE B nms b)
    | _ => false
  | .slc A lo hi, nms, e => match e with
    | .Subscript a (.Slice l h none _) _ => chkE A nms a && (chkO lo nms l && chkO hi nms h)
    | _ => false
  | .isi A cs, nms, e => match e with
    | .Call (.Name f _) [a, c] [] _ => (seq f "isinstance" && (glB nms f && noStar a)) && (chkE A nms a && isiB nms cs c)
    | _ => false
  | .call f es, nms, e => match e with
    | .Call (.Name nm _) args [] _ => entB P nms f nm && chkEs es nms args
    | _ => false
  | .callk f pm es ks, nms, e => match e with
    | .Call (.Name nm _) args kws _ => (entB P nms f nm && ktB P f args.length pm kws) && (chkEs es nms args && chkKs ks nms kws)
    | _ => false
  | .bi b es, nms, e => match e with
    | .Call (.Name nm _) (a :: args) [] _ => (biAll b && (seq nm (biNm b) && glB nms nm)) && chkEs es nms (a :: args)
    | _ => false
  | .lc elt tg it cs own, nms, e => match e with
    | .ListComp el [⟨t, i, ifs, 0⟩] scope _ => (blkB N nms scope own && (subL tg.slots own && notSet i)) && (chkI it nms t i && (tgB N (relN scope.names nms) (fun x => isCel (look scope.names x)) tg t && (chkCs cs (relN scope.names nms) ifs && chkE elt (relN scope.names nms) el)))
    | _ => false
  | .fresh A, nms, e => plainT e && chkE A nms e
  | .lstS es, nms, e => match e with
    | .List l _ => chkSt es nms l
    | _ => false
  | .lr1 A, nms, e => match lrArgs nms e with
    | some [a] => noStar a && chkE A nms a
    | _ => false
  | .lr2 A B, nms, e => match lrArgs nms e with
    | some [a, b] => (noStar a && chkE A nms a) && (noStar b && chkE B nms b)
    | _ => false
  | .bad, _, _ => true
  | _, _, _ => false
def chkO : OE → Nms → Option Expr → Bool
  | .no, _, e => match e with
    | none => true
    | some _ => false
  | .yes A, nms, e => match e with
    | none => false
    | some x => chkE A nms x
def chkEs : Es → Nms → List Expr → Bool
  | .nil, _, es => match es with
    | [] => true
    | _ => false
  | .cons A As, nms, es => match es with
    | [] => false
    | e :: es => noStar e && (chkE A nms e && chkEs As nms es)
  | .star _ _, _, _ => false
/-- .. some laid out -/
def chkSt : Es → Nms → List Expr → Bool
  | .nil, _, es => match es with
    | [] => true
    | _ => false
  | .cons A As, nms, es => match es with
    | [] => false
    | e :: es => noStar e && (chkE A nms e && chkSt As nms es)
  | .star A As, nms, es => match es with
    | .Starred e _ :: es => chkE A nms e && chkSt As nms es
    | _ => false
def chkKs : Es → Nms → List Keyword → Bool
  | .nil, _, es => match es with
    | [] => true
    | _ => false
  | .cons A As, nms, es => match es with
    | [] => false
    | ⟨_, e, _⟩ :: es => chkE A nms e && chkKs As nms es
  | .star _ _, _, _ => false
def chkCs : Es → Nms → List Expr → Bool
  | .nil, _, es => match es with
    | [] => true
    | _ => false
  | .cons A As, nms, es => match es with
    | [e] => (tst A && chkE A nms e) && (match As with | .nil => true | _ => false)
    | _ => false
  | .star _ _, _, _ => false
def chkI : It → Nms → Expr → Expr → Bool
  | .seq A, nms, _, e => chkE A nms e
  | .rng1 A, nms, _, e => match e with
    | .Call (.Name f _) [a] [] _ => (seq f "range" && (glB nms f && noStar a)) && chkE A nms a
    | _ => false
  | .rng2 A B, nms, _, e => match e with
    | .Call (.Name f _) [a, b] [] _ => (seq f "range" && (glB nms f && (noStar a && noStar b))) && (chkE A nms a && chkE B nms b)
    | _ => false
  | .rngS A B C, nms, _, e => match e with
    | .Call (.Name f _) [a, b, c] [] _ => (seq f "range" && (glB nms f && (noStar a && (noStar b && noStar c)))) && (chkE A nms a && (chkE B nms b && chkE C nms c))
    | _ => false
  | .zip A B, nms, t, e => match e, t with
    | .Call (.Name f _) [a, b] [] _, .Tuple _ _ _ => (seq f "zip" && (glB nms f && (noStar a && noStar b))) && (chkE A nms a && chkE B nms b)
    | _, _ => false
  | .enum A, nms, t, e => match e, t with
    | .Call (.Name f _) [a] [] _, .Tuple _ _ _ => (seq f "enumerate" && (glB nms f && noStar a)) && chkE A nms a
    | _, _ => false
  | .bad, _, _, _ => true
  | _, _, _, _ => false
end
end
end TM

set_option Elab.async false
set_option linter.all false
set_option maxRecDepth 100000
set_option maxHeartbeats 4000000
namespace TM
open PySem PySem.Spec L2

def bNames : List Str := ["isinstance", "range", "zip", "enumerate", "len", "list", "tuple", "int", "abs", "sum", "min", "max", "all", "any", "bool", "str", "dict", "sorted", "repr"]
structure XOk (X : Cx) (rp : T → Str) (P : List Ent) (k : Nat) (N : List Str) (nms : Nms) : Prop where
  hN : X.N = N
  nd : N.Nodup
  calm : X.calm = true
  kind : X.env.scope.kind = .function
  nm : X.env.scope.names = nms
  mg : ∀ b ∈ bNames, X.mg b = none
  co : ∀ f en, P[f]? = some en → CallOk X rp P k f en
  room : Room k X.A
  gd : X.A.guards = some []
  hrp : rp = rpT
  dbg : ∀ x ∈ N, (x == ("__debug__" : Str)) = false ∧ (x == ("__classdict__" : Str)) = false
theorem XOk.un {X : Cx} {rp : T → Str} {P : List Ent} {k : Nat} {N : List Str} {nms : Nms} (h : XOk X rp P k N nms) : X.A.units + 65 < cLine := by
  have := h.room.un
  omega
theorem isLoc_eq {o : Option NameKind} (h : isLoc o = true) : o = some .local := by
  cases o with
  | none => cases h
  | some k => cases k <;> first | rfl | cases h
theorem isCel_eq {o : Option NameKind} (h : isCel o = true) : o = some .cell := by
  cases o with
  | none => cases h
  | some k => cases k <;> first | rfl | cases h
theorem isFre_eq {o : Option NameKind} (h : isFre o = true) : o = some .free := by
  cases o with
  | none => cases h
  | some k => cases k <;> first | rfl | cases h
theorem isGlo_eq {o : Option NameKind} (h : isGlo o = true) : o = some .globalImplicit := by
  cases o with
  | none => cases h
  | some k => cases k <;> first | rfl | cases h
theorem isFre_k (k : NameKind) : (k == .free) = isFre (some k) := by cases k <;> rfl
theorem isCel_k (o : Option NameKind) : (o == some .cell) = isCel o := by
  cases o with
  | none => rfl
  | some k => cases k <;> rfl

section
variable {X : Cx} {rp : T → Str} {P : List Ent} {k : Nat} {N : List Str} {nms : Nms} {W : XW} {call : Nat → List T → R Val}
theorem XOk.blk (h : XOk X rp P k N nms) {scope : Scope} (hk : scope.kind = .function) (s : Shared) (H : Hp) (C : Addr) (cl : List (Str × Addr)) (fp : List Addr) : XOk (X.blk s H scope (compEnvC scope cl C X.env) fp) rp P k N (relN scope.names nms) where
  hN := h.hN
  nd := h.nd
  calm := h.calm
  kind := hk
  nm := by
    show (relabel scope X.env).names = _
    unfold relabel
    dsimp only
    unfold relN
    congr 1
    funext ⟨n, k⟩
    dsimp only
    have e : (X.env.scope.kind == .function) = true := by rw [h.kind]; rfl
    have e2 : X.env.kindOf n = look nms n := by
      unfold Env.kindOf
      rw [h.nm, look_eq]
    rw [e, e2, isFre_k, isCel_k, Bool.and_true]
  mg := h.mg
  co := fun f en e => ⟨(h.co f en e).ex⟩
  room := h.room
  gd := h.gd
  hrp := h.hrp
  dbg := h.dbg
theorem XOk.look (h : XOk X rp P k N nms) (x : Str) : X.env.scope.names.lookup x = look nms x := by rw [look_eq, h.nm]
theorem XOk.vis (h : XOk X rp P k N nms) {x : Str} (q : visB nms x = true) : Vis X.env.scope x := by
  unfold visB at q
  unfold Vis
  rw [h.look]
  rcases Bool.or_eq_true_iff.1 q with q | q
  · exact .inl (isLoc_eq q)
  · rcases Bool.or_eq_true_iff.1 q with q | q
    · exact .inr (.inl (isCel_eq q))
    · exact .inr (.inr (isFre_eq q))
theorem XOk.gl (h : XOk X rp P k N nms) {x : Str} (q : glB nms x = true) : Gl X x := by
  unfold Gl Env.kindOf
  rw [h.look]
  exact isGlo_eq q
theorem XOk.at (h : XOk X rp P k N nms) {i : Nat} {x : Str} (q : atN N i x = true) : X.N[i]? = some x := by rw [h.hN]; exact atN_eq q
theorem XOk.dbgAt (h : XOk X rp P k N nms) {i : Nat} {x : Str} (q : atN N i x = true) : (x == ("__debug__" : Str)) = false ∧ (x == ("__classdict__" : Str)) = false := h.dbg x (List.mem_of_getElem? (atN_eq q))
theorem XOk.ndX (h : XOk X rp P k N nms) : X.N.Nodup := by rw [h.hN]; exact h.nd

/-! ### targets -/
theorem stoB_ok (h : XOk X rp P k N nms) {cel : Str → Bool} (hc : ∀ x, cel x = true → X.fn x = true) {i : Nat} {x : Str} (q : stoB N nms cel i x = true) : X.N[i]? = some x ∧ L2.Loc X.env.scope x ∧ (X.fn x = true ∨ X.env.scope.names.lookup x = some .local) := by
  unfold stoB at q
  rw [Bool.and_eq_true] at q
  refine ⟨h.at q.1, ?_⟩
  unfold L2.Loc
  rw [h.look]
  rcases Bool.or_eq_true_iff.1 q.2 with q | q
  · exact ⟨.inl (isLoc_eq q), .inr (isLoc_eq q)⟩
  · rw [Bool.and_eq_true] at q
    exact ⟨.inr (isCel_eq q.1), .inl (hc x q.2)⟩
theorem tgsB_ok (h : XOk X rp P k N nms) {cel : Str → Bool} (hc : ∀ x, cel x = true → X.fn x = true) : ∀ {is : List Nat} {es : List Expr}, tgsB N nms cel is es = true → PGs X es (gNames is) ∧ (assignEach es X.env).length = is.length ∧ ∀ p ∈ assignEach es X.env, p.1 = false
  | [], [], _ => ⟨pgs_nil, rfl, fun _ k => nomatch k⟩
  | [], _ :: _, q => nomatch q
  | _ :: _, [], q => nomatch q
  | i :: is, e :: es, q => by
    unfold tgsB at q
    rw [Bool.and_eq_true] at q
    obtain ⟨q1, q2⟩ := q
    obtain ⟨h1, h2, h3⟩ := tgsB_ok h hc q2
    cases e <;> first | (cases q1; done) | skip
    rename_i x p
    obtain ⟨g1, g2, g3⟩ := stoB_ok h hc q1
    refine ⟨pgs_cons (pg_name h.ndX g1 g2 g3) h1, ?_, fun r hr => ?_⟩
    · show (assignEach es X.env).length + 1 = _
      rw [h2]; rfl
    · rcases List.mem_cons.mp (show r ∈ (false, assign (.Name x p) X.env) :: assignEach es X.env from hr) with e | e
      · rw [e]
      · exact h3 r e
theorem findIdx_none {α : Type} {l : List (Bool × α)} (h : ∀ p ∈ l, p.1 = false) : l.findIdx? (·.1) = none := by
  rw [List.findIdx?_eq_none_iff]
  exact h
theorem tgB_ok (h : XOk X rp P k N nms) {cel : Str → Bool} (hc : ∀ x, cel x = true → X.fn x = true) {tg : Tg} {e : Expr} (q : tgB N nms cel tg e = true) : PG X e (gTg X.K tg) := by
  cases tg with
  | nm i =>
    unfold tgB at q
    cases e <;> first | (cases q; done) | skip
    obtain ⟨g1, g2, g3⟩ := stoB_ok h hc q
    exact pg_name h.ndX g1 g2 g3
  | tp is =>
    unfold tgB at q
    cases e <;> first | (cases q; done) | skip
    obtain ⟨g1, g2, g3⟩ := tgsB_ok h hc q
    exact pg_tup h.calm g1 g2 (findIdx_none g3)

/-! ### bits -/
theorem star_cons {env : PySem.Env} {e : Expr} {es : List Expr} (h : noStar e = true) : starEach (e :: es) env = (false, eval e env) :: starEach es env := by
  cases e <;> first | rfl | cases h
theorem fold_pure {env : PySem.Env} {e : Expr} (h : notSet e = true) (x : Value) : foldedSetIterable e env x = pure x := by
  cases e <;> first | rfl | cases h
theorem behind_no {op : CmpOp} {e : Expr} (h : notSet e = true) : behindInMarks op e = false := by
  cases e <;> first | rfl | cases h
theorem plain_ok {env : PySem.Env} {e : Expr} (h : plainT e = true) (whole : Sem Value) : PySem.isTrue e env whole = (do let v ← whole; standAt e.pos; holding [v] (PySem.truthy v)) := by
  cases e <;> first | rfl | (cases h; done) | skip
  rename_i op a p
  cases op <;> first | rfl | cases h
theorem tyB_ok (h : XOk X rp P k N nms) {c : Ty} {e : Expr} (q : tyB nms c e = true) : PE X e (L2.tC (.ty (tyName c))) ∧ noStar e = true := by
  unfold tyB at q
  cases e <;> first | (cases q; done) | skip
  rename_i x p
  rw [Bool.and_eq_true] at q
  have := seq_eq q.1
  subst this
  refine ⟨?_, rfl⟩
  cases c
  all_goals exact pe_type (h.gl q.2) (h.mg _ (by decide +kernel)) (by decide +kernel) (by decide +kernel) (by decide +kernel)
theorem tysB_ok (h : XOk X rp P k N nms) : ∀ {cs : List Ty} {es : List Expr}, tysB nms cs es = true → TyNames X es cs
  | [], [], _ => .nil
  | [], _ :: _, q => nomatch q
  | _ :: _, [], q => nomatch q
  | c :: cs, e :: es, q => by
    unfold tysB at q
    rw [Bool.and_eq_true] at q
    obtain ⟨h1, h2⟩ := tyB_ok h q.1
    exact .cons h1 (star_cons h2) (tysB_ok h q.2)
theorem se_biR {f : BI} {p pos : Pos} {e : Expr} {es : List Expr} {As : Es} (h : XOk X rp P k N nms) (hb : biAll f = true) (hg : glB nms (biNm f) = true) (ha : SA X rp call W (e :: es) As) (he : starEach (e :: es) X.env = (false, eval e X.env) :: starEach es X.env) (hpl : (backTo pos (starEach es X.env)).any (·.1) = false) :
    SE X rp call W (.Call (.Name (biNm f) p) (e :: es) [] pos) (.bi f As) := by
  have hr := h.hrp
  have h1 := h.un
  have h2 := h.gd
  have h3 := h.calm
  have h4 := h.gl hg
  have h5 : X.mg (biNm f) = none := h.mg _ (by cases f <;> first | (cases hb; done) | decide +kernel)
  subst hr
  exact se_biA h1 h2 h3 hb h4 h5 ha he hpl
end
end TM

set_option Elab.async false
set_option linter.all false
set_option maxRecDepth 100000
set_option maxHeartbeats 4000000
namespace TM
open PySem PySem.Spec L2

structure Ok3 (X : Cx) (rp : T → Str) (call : Nat → List T → R Val) (e : Expr) (A : E) : Prop where
  se : SE X rp call W0 e A
  c : tst A = true → SC X rp call W0 e A
  w : ∀ op a b rest pos, e = .BoolOp op (a :: b :: rest) pos → tst A = true → SW X rp call W0 e A
section
variable {X : Cx} {rp : T → Str} {P : List Ent} {k : Nat} {N : List Str} {nms : Nms} {call : Nat → List T → R Val}
theorem ok3_plain {e : Expr} {A : E} (h : SE X rp call W0 e A) (hp : plainT e = true) : Ok3 X rp call e A :=
  ⟨h, fun _ => sc_val h fun whole => plain_ok hp whole, fun op a b rest pos q => by subst q; cases hp⟩
theorem ok3_c {e : Expr} {A : E} (h : SE X rp call W0 e A) (hc : tst A = true → SC X rp call W0 e A) (hp : ∀ op l pos, e ≠ .BoolOp op l pos) : Ok3 X rp call e A :=
  ⟨h, hc, fun op a b rest pos q => absurd q (hp _ _ _)⟩
theorem ok3_strip {op : BoolOp} {b : Expr} {rest : List Expr} {pos : Pos} {B : E} (h : Ok3 X rp call (strip op b rest pos) B) : SE X rp call W0 (.BoolOp op (b :: rest) pos) B := by
  cases rest with
  | nil => exact se_one h.se
  | cons c r => exact h.se
theorem ok3_stripA {b : Expr} {rest : List Expr} {pos : Pos} {B : E} (h : Ok3 X rp call (strip .And b rest pos) B) (t : tst B = true) : SW X rp call W0 (.BoolOp .And (b :: rest) pos) B := by
  cases rest with
  | nil => exact sw_and1 (h.c t)
  | cons c r => exact h.w _ _ _ _ _ rfl t
theorem ok3_stripO {b : Expr} {rest : List Expr} {pos : Pos} {B : E} (h : Ok3 X rp call (strip .Or b rest pos) B) (t : tst B = true) : SW X rp call W0 (.BoolOp .Or (b :: rest) pos) B := by
  cases rest with
  | nil => exact sw_or1 (h.c t)
  | cons c r => exact h.w _ _ _ _ _ rfl t
theorem ok3_bad {e : Expr} : Ok3 X rp call e .bad :=
  ⟨se_bad, fun _ => ⟨fun pins s σ H R I ⟨G, F, τ, b, pre, h⟩ => h.elim⟩, fun _ _ _ _ _ _ _ => ⟨fun wh pins s σ H R I ⟨G, F, τ, b, pre, h⟩ => h.elim⟩⟩

theorem blkB_ok {scope : Scope} {own : List Nat} (h : XOk X rp P k N nms) (q : blkB N nms scope own = true) : BlkOk X.N X.env.scope scope (ownL N own) := by
  unfold blkB at q
  simp only [Bool.and_eq_true, List.all_eq_true] at q
  obtain ⟨q1, q2, q3, q4⟩ := q
  refine ⟨?_, fun y hy => ?_, fun p hp => ?_, fun y hy e => ?_, fun y hy e => ?_⟩
  · cases e : scope.kind <;> rw [e] at q1 <;> first | rfl | cases q1
  · have := q2 y hy
    rw [look_eq] at this
    obtain ⟨n, kd⟩ := y
    dsimp only at this ⊢
    split at this <;> first | (rename_i a; rw [a]; done) | (cases this; done) | skip
    all_goals simp_all
  · rw [h.hN]
    clear q1 q2 q4
    induction own with
    | nil => cases hp
    | cons i is ih =>
      rcases List.mem_cons.mp (show p ∈ ((N[i]?).getD "", i) :: ownL N is from hp) with e | hp
      · subst e
        have := q3 i List.mem_cons_self
        dsimp only
        split at this
        · rename_i x e; rw [e]; rfl
        · cases this
      · exact ih (fun x hx => q3 x (List.mem_cons_of_mem _ hx)) hp
  · have := q4 y hy
    rw [e] at this
    dsimp only at this
    rw [h.look]
    rcases Bool.or_eq_true_iff.1 this with q | q
    · exact .inl (isCel_eq q)
    · exact .inr (isFre_eq q)
  · have := q4 y hy
    rw [h.hN]
    rcases e with e | e
    all_goals
      rw [e] at this
      dsimp only at this
      rcases Bool.or_eq_true_iff.1 this with q | q
      · exact .inl (memS_iff.1 q)
      · refine .inr fun z => ?_
        rw [memS_iff.2 z] at q
        cases q
theorem blkB_kind {scope : Scope} {own : List Nat} (q : blkB N nms scope own = true) : scope.kind = .function := by
  unfold blkB at q
  simp only [Bool.and_eq_true] at q
  have q1 := q.1
  cases e : scope.kind <;> rw [e] at q1 <;> first | rfl | cases q1
theorem subL_ok {a b : List Nat} (h : subL a b = true) : ∀ i ∈ a, i ∈ b := by
  intro i hi
  unfold subL at h
  rw [List.all_eq_true] at h
  have := h i hi
  rw [List.any_eq_true] at this
  obtain ⟨j, hj, e⟩ := this
  have := Nat.eq_of_beq_eq_true e
  subst this; exact hj
theorem entB_ok {f : Nat} {nm : Str} (q : entB P nms f nm = true) : ∃ en, P[f]? = some en ∧ en.nm = nm ∧ glB nms nm = true ∧ wfE en = true ∧ (nm == ("__debug__" : Str)) = false := by
  unfold entB at q
  split at q
  · rename_i en e
    simp only [Bool.and_eq_true] at q
    refine ⟨en, e, seq_eq q.1, q.2.1, q.2.2.1, seq_ne ?_⟩
    have := q.2.2.2
    cases z : seq nm "__debug__" with
    | false => rfl
    | true => rw [z] at this; cases this
  · cases q
theorem chkEs_star {es : Es} : ∀ {l : List Expr}, chkEs N P es nms l = true → ∀ env, (starEach l env).any (·.1) = false := by
  intro l
  induction l generalizing es with
  | nil => intro _ _; rfl
  | cons e l ih =>
    intro h env
    cases es with
    | nil => unfold chkEs at h; cases h
    | star A As => unfold chkEs at h; cases h
    | cons A As =>
      unfold chkEs at h
      simp only [Bool.and_eq_true] at h
      rw [star_cons h.1]
      simp only [List.any_cons, Bool.false_or]
      exact ih h.2.2 env
theorem backTo_any {pos : Pos} (l : List (Bool × Sem Value)) : (backTo pos l).any (·.1) = l.any (·.1) := by
  unfold backTo
  rw [List.any_map]
  rfl
theorem chkEs_len {es : Es} : ∀ {l : List Expr}, chkEs N P es nms l = true → lenEs es = some l.length := by
  intro l
  induction l generalizing es with
  | nil =>
    intro h
    cases es with
    | nil => rfl
    | cons A As => unfold chkEs at h; cases h
    | star A As => unfold chkEs at h; cases h
  | cons e l ih =>
    intro h
    cases es with
    | nil => unfold chkEs at h; cases h
    | star A As => unfold chkEs at h; cases h
    | cons A As =>
      unfold chkEs at h
      simp only [Bool.and_eq_true] at h
      show (lenEs As).map (· + 1) = _
      rw [ih h.2.2]; rfl
theorem chkKs_len {es : Es} : ∀ {l : List Keyword}, chkKs N P es nms l = true → lenEs es = some l.length := by
  intro l
  induction l generalizing es with
  | nil =>
    intro h
    cases es with
    | nil => rfl
    | cons A As => unfold chkKs at h; cases h
    | star A As => unfold chkKs at h; cases h
  | cons e l ih =>
    intro h
    cases es with
    | nil => unfold chkKs at h; cases h
    | star A As => unfold chkKs at h; cases h
    | cons A As =>
      obtain ⟨a, b, c⟩ := e
      unfold chkKs at h
      simp only [Bool.and_eq_true] at h
      show (lenEs As).map (· + 1) = _
      rw [ih h.2]; rfl
theorem kws_names : ∀ {ks : List Str} {kws : List Keyword} (pos : Pos) (env : PySem.Env), nmsEq ks kws = true → (backToKw pos (keywordEach kws env)).all (·.1.isSome) = true ∧ (backToKw pos (keywordEach kws env)).filterMap (·.1) = ks ∧ (backToKw pos (keywordEach kws env)).any (·.1.isNone) = false ∧ kws.length = ks.length
  | [], [], _, _, _ => ⟨rfl, rfl, rfl, rfl⟩
  | [], _ :: _, _, _, h => nomatch h
  | _ :: _, [], _, _, h => nomatch h
  | x :: ks, ⟨a, b, c⟩ :: kws, pos, env, h => by
    unfold nmsEq at h
    rw [Bool.and_eq_true] at h
    obtain ⟨h1, h2, h3, h4⟩ := kws_names (ks := ks) (kws := kws) pos env h.2
    cases a with
    | none => exact nomatch h.1
    | some y =>
      have := seq_eq h.1
      subst this
      refine ⟨?_, ?_, ?_, congrArg Nat.succ h4⟩
      · show (true && _) = true
        exact h1
      · show y :: _ = _
        rw [← h2]; rfl
      · show (false || _) = false
        exact h3
theorem ktB_ok {f np : Nat} {pm : List Nat} {kws : List Keyword} {en : Ent} (hP : P[f]? = some en) (q : ktB P f np pm kws = true) : ∃ ks, (np, ks, pm) ∈ en.kts ∧ nmsEq ks kws = true ∧ ∀ i ∈ pm, i < np + ks.length := by
  unfold ktB at q
  rw [hP] at q
  dsimp only at q
  rw [List.any_eq_true] at q
  obtain ⟨⟨n, ks, pm'⟩, hm, q⟩ := q
  simp only [Bool.and_eq_true] at q
  have e1 := Nat.eq_of_beq_eq_true q.1
  have e2 := nlEq_iff.1 q.2.1
  subst e1; subst e2
  refine ⟨ks, hm, q.2.2.1, fun i hi => ?_⟩
  have := List.all_eq_true.1 q.2.2.2 i hi
  exact Nat.le_of_ble_eq_true this
end
end TM

set_option Elab.async false
set_option linter.all false
set_option maxRecDepth 100000
set_option maxHeartbeats 8000000
namespace TM
open PySem PySem.Spec L2

section
variable {rp : T → Str} {P : List Ent} {k : Nat} {N : List Str}
abbrev OkPE (rp : T → Str) (P : List Ent) (k : Nat) (N : List Str) (A : E) : Prop := ∀ (X : Cx) (nms : Nms) (e : Expr), XOk X rp P k N nms → chkE N P A nms e = true → Ok3 X rp (run rp (fds P) k) e A
abbrev OkPO (rp : T → Str) (P : List Ent) (k : Nat) (N : List Str) (A : OE) : Prop := ∀ (X : Cx) (nms : Nms) (e : Option Expr), XOk X rp P k N nms → chkO N P A nms e = true → SO X rp (run rp (fds P) k) W0 e A
abbrev OkPEs (rp : T → Str) (P : List Ent) (k : Nat) (N : List Str) (A : Es) : Prop := ∀ (X : Cx) (nms : Nms) (e : List Expr), XOk X rp P k N nms → chkEs N P A nms e = true → SA X rp (run rp (fds P) k) W0 e A
abbrev OkPSt (rp : T → Str) (P : List Ent) (k : Nat) (N : List Str) (A : Es) : Prop := ∀ (X : Cx) (nms : Nms) (e : List Expr), XOk X rp P k N nms → chkSt N P A nms e = true → SA X rp (run rp (fds P) k) W0 e A
abbrev OkPKs (rp : T → Str) (P : List Ent) (k : Nat) (N : List Str) (A : Es) : Prop := ∀ (X : Cx) (nms : Nms) (e : List Keyword), XOk X rp P k N nms → chkKs N P A nms e = true → SK X rp (run rp (fds P) k) W0 e A
abbrev OkPCs (rp : T → Str) (P : List Ent) (k : Nat) (N : List Str) (A : Es) : Prop := ∀ (X : Cx) (nms : Nms) (e : List Expr), XOk X rp P k N nms → chkCs N P A nms e = true → SCs X rp (run rp (fds P) k) W0 e A
abbrev OkPI (rp : T → Str) (P : List Ent) (k : Nat) (N : List Str) (A : It) : Prop := ∀ (X : Cx) (nms : Nms) (t e : Expr), XOk X rp P k N nms → chkI N P A nms t e = true → SI X rp (run rp (fds P) k) W0 t e A
theorem okE_var {i}  : OkPE rp P k N (.var i) := by
    intro X nms e h q
    unfold chkE at q
    cases e <;> first | (cases q; done) | skip
    unfold varB at q
    rw [Bool.and_eq_true] at q
    obtain ⟨d1, d2⟩ := h.dbgAt q.1
    exact ok3_plain (se_var (h.at q.1) (h.vis q.2) d1 d2) rfl
theorem okE_cst {t}  : OkPE rp P k N (.cst t) := by
    intro X nms e h q
    unfold chkE at q
    cases e <;> first | (cases q; done) | skip
    rename_i c _ _
    cases t <;> cases c <;> first | (cases q; done) | skip
    · exact ok3_plain se_non rfl
    · have := eq_of_beq (show (_ == _) = true from q); subst this; exact ok3_plain se_bl rfl
    · have := of_decide_eq_true (show decide (_ = _) = true from q); subst this; exact ok3_plain se_int rfl
    · have := seq_eq (show seq _ _ = true from q); subst this; exact ok3_plain se_str rfl
theorem okE_bin {o A B} (iE_A : OkPE rp P k N A) (iE_B : OkPE rp P k N B) : OkPE rp P k N (.bin o A B) := by
    intro X nms e h q
    unfold chkE at q
    cases e <;> first | (cases q; done) | skip
    rename_i a op b p
    simp only [Bool.and_eq_true] at q
    obtain ⟨q1, q2, q3⟩ := q
    have ha := (iE_A _ _ _ h q2).se
    have hb := (iE_B _ _ _ h q3).se
    cases o <;> cases op <;> first | (cases q1; done) | skip
    · exact ok3_plain (se_add ha hb) rfl
    · exact ok3_plain (se_sub ha hb) rfl
    · exact ok3_plain (se_mul ha hb) rfl
    · exact ok3_plain (se_fdiv ha hb) rfl
    · exact ok3_plain (se_mod ha hb) rfl
    · exact ok3_plain (se_pow ha hb) rfl
theorem okE_neg {A} (iE_A : OkPE rp P k N A) : OkPE rp P k N (.neg A) := by
    intro X nms e h q
    unfold chkE at q
    cases e <;> first | (cases q; done) | skip
    rename_i op a p
    cases op <;> first | (cases q; done) | skip
    exact ok3_plain (se_neg (iE_A _ _ _ h q).se) rfl
theorem okE_not {A} (iE_A : OkPE rp P k N A) : OkPE rp P k N (.not A) := by
    intro X nms e h q
    unfold chkE at q
    cases e <;> first | (cases q; done) | skip
    rename_i op a p
    cases op <;> first | (cases q; done) | skip
    exact ok3_c (se_not (iE_A _ _ _ h q).se) (fun t => sc_not ((iE_A _ _ _ h q).c t)) (fun _ _ _ z => nomatch z)
theorem okE_and {A B} (iE_A : OkPE rp P k N A) (iE_B : OkPE rp P k N B) : OkPE rp P k N (.and A B) := by
    intro X nms e h q
    unfold chkE at q
    cases e <;> first | (cases q; done) | skip
    rename_i op l p
    cases op <;> first | (cases q; done) | skip
    match l, q with
    | a :: b :: rest, q =>
      simp only [Bool.and_eq_true] at q
      have ha := iE_A _ _ _ h q.1
      have hb := iE_B _ _ _ h q.2
      have hw : tst (.and A B) = true → SW X rp (run rp (fds P) k) W0 (.BoolOp .And (a :: b :: rest) p) (.and A B) := fun t => by
        unfold tst at t
        rw [Bool.and_eq_true] at t
        exact sw_and (ha.c t.1) (ok3_stripA hb t.2)
      exact ⟨se_and ha.se (ok3_strip hb), fun t => (hw t).pt, fun op' a' b' r' p' e t => by cases e; exact hw t⟩
theorem okE_or {A B} (iE_A : OkPE rp P k N A) (iE_B : OkPE rp P k N B) : OkPE rp P k N (.or A B) := by
    intro X nms e h q
    unfold chkE at q
    cases e <;> first | (cases q; done) | skip
    rename_i op l p
    cases op <;> first | (cases q; done) | skip
    match l, q with
    | a :: b :: rest, q =>
      simp only [Bool.and_eq_true] at q
      have ha := iE_A _ _ _ h q.1
      have hb := iE_B _ _ _ h q.2
      have hw : tst (.or A B) = true → SW X rp (run rp (fds P) k) W0 (.BoolOp .Or (a :: b :: rest) p) (.or A B) := fun t => by
        unfold tst at t
        rw [Bool.and_eq_true] at t
        exact sw_or (ha.c t.1) (ok3_stripO hb t.2)
      exact ⟨se_or ha.se (ok3_strip hb), fun t => (hw t).pt, fun op' a' b' r' p' e t => by cases e; exact hw t⟩
theorem okE_cmp {o A B} (iE_A : OkPE rp P k N A) (iE_B : OkPE rp P k N B) : OkPE rp P k N (.cmp o A B) := by
    intro X nms e h q
    unfold chkE at q
    cases e <;> first | (cases q; done) | skip
    rename_i a ops bs p
    match ops, bs, q with
    | [op], [b], q =>
      simp only [Bool.and_eq_true] at q
      obtain ⟨⟨q1, q2⟩, q3, q4⟩ := q
      have := cmpB_eq q1
      subst this
      exact ok3_c (se_cmp h.un (behind_no q2) (iE_A _ _ _ h q3).se (iE_B _ _ _ h q4).se) (fun _ => sc_cmp h.un (behind_no q2) (iE_A _ _ _ h q3).se (iE_B _ _ _ h q4).se) (fun _ _ _ z => nomatch z)
theorem okE_chain {o o' A B C} (iE_A : OkPE rp P k N A) (iE_B : OkPE rp P k N B) (iE_C : OkPE rp P k N C) : OkPE rp P k N (.chain o o' A B C) := by
    intro X nms e h q
    unfold chkE at q
    cases e <;> first | (cases q; done) | skip
    rename_i a ops bs p
    match ops, bs, q with
    | [op, op'], [b, c], q =>
      simp only [Bool.and_eq_true] at q
      obtain ⟨⟨q1, q2, q3⟩, q4, q5, q6⟩ := q
      have := cmpB_eq q1
      subst this
      have := cmpB_eq q2
      subst this
      have hm : lastMarks [opOf o, opOf o'] [b, c] = false := behind_no q3
      exact ok3_c (se_chain h.un (iE_A _ _ _ h q4).se (iE_B _ _ _ h q5).se (iE_C _ _ _ h q6).se hm) (fun _ => sc_chain h.un (iE_A _ _ _ h q4).se (iE_B _ _ _ h q5).se (iE_C _ _ _ h q6).se hm) (fun _ _ _ z => nomatch z)
theorem okE_ite {C A B} (iE_C : OkPE rp P k N C) (iE_A : OkPE rp P k N A) (iE_B : OkPE rp P k N B) : OkPE rp P k N (.ite C A B) := by
    intro X nms e h q
    unfold chkE at q
    cases e <;> first | (cases q; done) | skip
    simp only [Bool.and_eq_true] at q
    obtain ⟨⟨q1, q2⟩, q3, q4⟩ := q
    exact ok3_c (se_ite ((iE_C _ _ _ h q2).c q1) (iE_A _ _ _ h q3).se (iE_B _ _ _ h q4).se) (fun t => nomatch t) (fun _ _ _ z => nomatch z)
theorem okE_lst {es} (iEs_es : OkPEs rp P k N es) : OkPE rp P k N (.lst es) := by
    intro X nms e h q
    unfold chkE at q
    cases e <;> first | (cases q; done) | skip
    exact ok3_plain (se_lst (iEs_es _ _ _ h q)) rfl
theorem okE_tup {es} (iEs_es : OkPEs rp P k N es) : OkPE rp P k N (.tup es) := by
    intro X nms e h q
    unfold chkE at q
    cases e <;> first | (cases q; done) | skip
    simp only [Bool.and_eq_true] at q
    exact ok3_plain (se_tup (iEs_es _ _ _ h q.2) (Nat.le_of_ble_eq_true q.1) trivial) rfl
theorem okE_idx {A B} (iE_A : OkPE rp P k N A) (iE_B : OkPE rp P k N B) : OkPE rp P k N (.idx A B) := by
    intro X nms e h q
    unfold chkE at q
    cases e <;> first | (cases q; done) | skip
    simp only [Bool.and_eq_true] at q
    exact ok3_plain (se_idx h.un (plainIx_of q.1) (iE_A _ _ _ h q.2.1).se (iE_B _ _ _ h q.2.2).se) rfl
theorem okE_slc {A lo hi} (iE_A : OkPE rp P k N A) (iO_lo : OkPO rp P k N lo) (iO_hi : OkPO rp P k N hi) : OkPE rp P k N (.slc A lo hi) := by
    intro X nms e h q
    unfold chkE at q
    cases e <;> first | (cases q; done) | skip
    rename_i a s p
    cases s <;> first | (cases q; done) | skip
    rename_i l u st p2
    cases st <;> first | (cases q; done) | skip
    simp only [Bool.and_eq_true] at q
    exact ok3_plain (se_slc (iE_A _ _ _ h q.1).se (iO_lo _ _ _ h q.2.1) (iO_hi _ _ _ h q.2.2)) rfl
theorem okE_isi {A cs} (iE_A : OkPE rp P k N A) : OkPE rp P k N (.isi A cs) := by
    intro X nms e h q
    unfold chkE at q
    cases e <;> first | (cases q; done) | skip
    rename_i f args kws p
    cases f <;> first | (cases q; done) | skip
    rename_i f fp
    match args, kws, q with
    | [a, c], [], q =>
      simp only [Bool.and_eq_true] at q
      obtain ⟨⟨q1, q2, q3⟩, q4, q5⟩ := q
      have := seq_eq q1
      subst this
      have ha := (iE_A _ _ _ h q4).se
      unfold isiB at q5
      split at q5
      · obtain ⟨g1, g2⟩ := tyB_ok h q5
        exact ok3_plain (se_isi1 (h.gl q2) (h.mg _ (by decide +kernel)) ha g1 (star_cons q3) (star_cons g2)) rfl
      · rw [Bool.and_eq_true] at q5
        exact ok3_plain (se_isiT q5.1 (by simp) (h.gl q2) (h.mg _ (by decide +kernel)) ha (tysB_ok h q5.2) (star_cons q3)) rfl
      · cases q5
theorem okE_call {f es} (iEs_es : OkPEs rp P k N es) : OkPE rp P k N (.call f es) := by
    intro X nms e h q
    unfold chkE at q
    cases e <;> first | (cases q; done) | skip
    rename_i g args kws p
    cases g <;> first | (cases q; done) | skip
    rename_i nm fp
    match kws, q with
    | [], q =>
      simp only [Bool.and_eq_true] at q
      obtain ⟨q1, q2⟩ := q
      obtain ⟨en, e1, e2, e3, e4, e5⟩ := entB_ok q1
      subst e2
      have ha := iEs_es _ _ _ h q2
      match args, es, q2, ha with
      | [], .nil, _, _ => exact ok3_plain (se_call0 h.room h.gd e1 e4 (h.co _ _ e1) (h.gl e3) e5) rfl
      | [], .cons _ _, q2, _ => unfold chkEs at q2; cases q2
      | a :: args, es, q2, ha =>
        have hs : noStar a = true := by
          cases es with
          | nil => unfold chkEs at q2; cases q2
          | star _ _ => unfold chkEs at q2; cases q2
          | cons A As => unfold chkEs at q2; rw [Bool.and_eq_true] at q2; exact q2.1
        have hs2 := chkEs_star q2 X.env
        rw [star_cons hs, List.any_cons, Bool.false_or] at hs2
        exact ok3_plain (se_call h.room h.gd e1 e4 (h.co _ _ e1) (h.gl e3) ha e5 (star_cons hs) (by rw [backTo_any]; exact hs2)) rfl
theorem okE_callk {f pm es ks} (iEs_es : OkPEs rp P k N es) (iKs_ks : OkPKs rp P k N ks) : OkPE rp P k N (.callk f pm es ks) := by
    intro X nms e h q
    unfold chkE at q
    cases e <;> first | (cases q; done) | skip
    rename_i g args kws p
    cases g <;> first | (cases q; done) | skip
    rename_i nm fp
    simp only [Bool.and_eq_true] at q
    obtain ⟨⟨q1, q2⟩, q3, q4⟩ := q
    obtain ⟨en, e1, e2, e3, e4, e5⟩ := entB_ok q1
    subst e2
    obtain ⟨kn, g1, g2, g3⟩ := ktB_ok e1 q2
    obtain ⟨k1, k2, k3, k4⟩ := kws_names p X.env g2
    have ha := iEs_es _ _ _ h q3
    have hk := iKs_ks _ _ _ h q4
    have l1 := chkEs_len q3
    have l2 := chkKs_len q4
    have hs2 := chkEs_star q3 X.env
    have hpl : ((backTo p (starEach args X.env)).any (·.1) || (backToKw p (keywordEach kws X.env)).any (·.1.isNone)) = false := by rw [backTo_any, hs2, k3]; rfl
    match args, es, q3, ha, l1, g1, g3, hpl with
    | [], .nil, _, _, _, g1, g3, hpl => exact ok3_plain (se_callk0 h.room h.gd e1 e4 (h.co _ _ e1) g1 (h.gl e3) (by rw [l2, k4]) g3 hk k1 k2 e5 hpl) rfl
    | [], .cons _ _, q3, _, _, _, _, _ => unfold chkEs at q3; cases q3
    | a :: args, es, q3, ha, l1, g1, g3, hpl =>
      have hs : noStar a = true := by
        cases es with
        | nil => unfold chkEs at q3; cases q3
        | star _ _ => unfold chkEs at q3; cases q3
        | cons A As => unfold chkEs at q3; rw [Bool.and_eq_true] at q3; exact q3.1
      exact ok3_plain (se_callk h.room h.gd e1 e4 (h.co _ _ e1) g1 (h.gl e3) l1 (by rw [l2, k4]) g3 ha hk k1 k2 e5 (star_cons hs) hpl) rfl
theorem okE_bi {b es} (iEs_es : OkPEs rp P k N es) : OkPE rp P k N (.bi b es) := by
    intro X nms e h q
    unfold chkE at q
    cases e <;> first | (cases q; done) | skip
    rename_i g args kws p
    cases g <;> first | (cases q; done) | skip
    rename_i nm fp
    match args, kws, q with
    | a :: args, [], q =>
      simp only [Bool.and_eq_true] at q
      obtain ⟨⟨q1, q2, q3⟩, q4⟩ := q
      have := seq_eq q2
      subst this
      have hs : noStar a = true := by
        cases es with
        | nil => unfold chkEs at q4; cases q4
        | star _ _ => unfold chkEs at q4; cases q4
        | cons A As => unfold chkEs at q4; rw [Bool.and_eq_true] at q4; exact q4.1
      have hs2 := chkEs_star q4 X.env
      rw [star_cons hs, List.any_cons, Bool.false_or] at hs2
      exact ok3_plain (se_biR h q1 q3 (iEs_es _ _ _ h q4) (star_cons hs) (by rw [backTo_any]; exact hs2)) rfl
theorem okE_lc {elt tg it cs own} (iI_it : OkPI rp P k N it) (iCs_cs : OkPCs rp P k N cs) (iE_elt : OkPE rp P k N elt) : OkPE rp P k N (.lc elt tg it cs own) := by
    intro X nms e h q
    unfold chkE at q
    cases e <;> first | (cases q; done) | skip
    rename_i el gens scope p
    match gens, q with
    | [⟨t, i, ifs, 0⟩], q =>
      simp only [Bool.and_eq_true] at q
      obtain ⟨⟨q1, q2, q3⟩, q4, q5, q6, q7⟩ := q
      have kd := blkB_kind q1
      refine ok3_plain (se_lc h.calm h.ndX (blkB_ok h q1) (ownL_snd N own) (iI_it _ _ _ _ h q4) (fun s H C cl fp => ?_) (subL_ok q2) (fun s H C cl fp => iCs_cs _ _ _ (h.blk kd s H C cl fp) q6) (fun s H C cl fp => (iE_elt _ _ _ (h.blk kd s H C cl fp) q7).se) (fun x => fold_pure q3 x)) rfl
      refine tgB_ok (h.blk kd s H C cl fp) (fun x hx => ?_) q5
      show (scope.names.lookup x == some .cell) = true
      rw [← look_eq, isCel_k]
      exact hx
theorem okE_bad  : OkPE rp P k N (.bad) := by
    intro X nms e h q
    exact ok3_bad
theorem okE_rev {x0}  : OkPE rp P k N (.rev x0) := by
    intro X nms e h q
    unfold chkE at q; cases q
theorem okE_fresh {A} (iE_A : OkPE rp P k N A) : OkPE rp P k N (.fresh A) := by
    intro X nms e h q
    unfold chkE at q
    rw [Bool.and_eq_true] at q
    exact ok3_plain (se_fresh (iE_A _ _ _ h q.2).se) q.1
theorem okE_lstS {es} (iSt_es : OkPSt rp P k N es) : OkPE rp P k N (.lstS es) := by
    intro X nms e h q
    unfold chkE at q
    cases e <;> first | (cases q; done) | skip
    exact ok3_plain (se_lstS (iSt_es _ _ _ h q)) rfl
theorem okE_lr1 {A} (iE_A : OkPE rp P k N A) : OkPE rp P k N (.lr1 A) := by
    intro X nms e h q
    unfold chkE at q
    split at q
    · rename_i a ha
      rw [Bool.and_eq_true] at q
      obtain ⟨p, pos, p2, cpos, rfl, g1, g2⟩ := lrArgs_eq ha
      exact ok3_plain (se_listRg1 h.calm (h.gl g2) (h.mg _ (by decide +kernel)) (h.gl g1) (h.mg _ (by decide +kernel)) (iE_A _ _ _ h q.2).se (star_cons q.1)) rfl
    · cases q
theorem okE_lr2 {A B} (iE_A : OkPE rp P k N A) (iE_B : OkPE rp P k N B) : OkPE rp P k N (.lr2 A B) := by
    intro X nms e h q
    unfold chkE at q
    split at q
    · rename_i a b ha
      simp only [Bool.and_eq_true] at q
      obtain ⟨⟨q5, q6⟩, q7, q8⟩ := q
      obtain ⟨p, pos, p2, cpos, rfl, g1, g2⟩ := lrArgs_eq ha
      exact ok3_plain (se_listRg2 h.calm (h.gl g2) (h.mg _ (by decide +kernel)) (h.gl g1) (h.mg _ (by decide +kernel)) (iE_A _ _ _ h q6).se (iE_B _ _ _ h q8).se (star_cons q5) (star_cons q7)) rfl
    · cases q
theorem okE_lc2 {x0 x1 x2 x3 x4 x5 x6 x7 x8}  : OkPE rp P k N (.lc2 x0 x1 x2 x3 x4 x5 x6 x7 x8) := by
    intro X nms e h q
    unfold chkE at q; cases q
theorem okO_no  : OkPO rp P k N (.no) := by
    intro X nms e h q
    unfold chkO at q
    cases e <;> first | (cases q; done) | skip
    exact so_no
theorem okO_yes {A} (iE_A : OkPE rp P k N A) : OkPO rp P k N (.yes A) := by
    intro X nms e h q
    unfold chkO at q
    cases e <;> first | (cases q; done) | skip
    exact so_yes (iE_A _ _ _ h q).se
theorem okEs_nil  : OkPEs rp P k N (.nil) := by
    intro X nms e h q
    unfold chkEs at q
    cases e <;> first | (cases q; done) | skip
    exact sa_nil
theorem okEs_cons {A As} (iE_A : OkPE rp P k N A) (iEs_As : OkPEs rp P k N As) : OkPEs rp P k N (.cons A As) := by
    intro X nms e h q
    unfold chkEs at q
    cases e <;> first | (cases q; done) | skip
    simp only [Bool.and_eq_true] at q
    exact sa_cons (iE_A _ _ _ h q.2.1).se (iEs_As _ _ _ h q.2.2) (star_cons q.1)
theorem okEs_star {x0 x1}  : OkPEs rp P k N (.star x0 x1) := by
    intro X nms e h q
    unfold chkEs at q; cases q
theorem okSt_nil  : OkPSt rp P k N (.nil) := by
    intro X nms e h q
    unfold chkSt at q
    cases e <;> first | (cases q; done) | skip
    exact sa_nil
theorem okSt_cons {A As} (iE_A : OkPE rp P k N A) (iSt_As : OkPSt rp P k N As) : OkPSt rp P k N (.cons A As) := by
    intro X nms e h q
    unfold chkSt at q
    cases e <;> first | (cases q; done) | skip
    simp only [Bool.and_eq_true] at q
    exact sa_cons (iE_A _ _ _ h q.2.1).se (iSt_As _ _ _ h q.2.2) (star_cons q.1)
theorem okSt_star {A As} (iE_A : OkPE rp P k N A) (iSt_As : OkPSt rp P k N As) : OkPSt rp P k N (.star A As) := by
    intro X nms e h q
    unfold chkSt at q
    cases e <;> first | (cases q; done) | skip
    rename_i e es
    cases e <;> first | (cases q; done) | skip
    rename_i e sp
    have q : (chkE N P A nms e && chkSt N P As nms es) = true := q
    rw [Bool.and_eq_true] at q
    exact sa_star (iE_A _ _ _ h q.1).se (iSt_As _ _ _ h q.2) rfl
theorem okKs_nil  : OkPKs rp P k N (.nil) := by
    intro X nms e h q
    unfold chkKs at q
    cases e <;> first | (cases q; done) | skip
    exact sk_nil
theorem okKs_cons {A As} (iE_A : OkPE rp P k N A) (iKs_As : OkPKs rp P k N As) : OkPKs rp P k N (.cons A As) := by
    intro X nms e h q
    unfold chkKs at q
    cases e <;> first | (cases q; done) | skip
    rename_i kw kws
    obtain ⟨a, b, c⟩ := kw
    simp only [Bool.and_eq_true] at q
    exact sk_cons (iE_A _ _ _ h q.1).se (iKs_As _ _ _ h q.2)
theorem okKs_star {x0 x1}  : OkPKs rp P k N (.star x0 x1) := by
    intro X nms e h q
    unfold chkKs at q; cases q
theorem okCs_nil  : OkPCs rp P k N (.nil) := by
    intro X nms e h q
    unfold chkCs at q
    cases e <;> first | (cases q; done) | skip
    exact scs_nil
theorem okCs_cons {A As} (iE_A : OkPE rp P k N A) : OkPCs rp P k N (.cons A As) := by
    intro X nms e h q
    unfold chkCs at q
    match e, As, q with
    | [e], .nil, q =>
      simp only [Bool.and_eq_true] at q
      exact scs_one ((iE_A _ _ _ h q.1.2).c q.1.1)
    | [e], .cons _ _, q => simp at q
    | [e], .star _ _, q => simp at q
theorem okCs_star {x0 x1}  : OkPCs rp P k N (.star x0 x1) := by
    intro X nms e h q
    unfold chkCs at q; cases q
theorem okI_seq {A} (iE_A : OkPE rp P k N A) : OkPI rp P k N (.seq A) := by
    intro X nms t e h q
    unfold chkI at q
    exact si_seq (iE_A _ _ _ h q).se
theorem okI_rng1 {A} (iE_A : OkPE rp P k N A) : OkPI rp P k N (.rng1 A) := by
    intro X nms t e h q
    unfold chkI at q
    cases e <;> first | (cases q; done) | skip
    rename_i g args kws p
    cases g <;> first | (cases q; done) | skip
    rename_i nm fp
    match args, kws, q with
    | [a], [], q =>
      simp only [Bool.and_eq_true] at q
      obtain ⟨⟨q1, q2, q3⟩, q4⟩ := q
      have := seq_eq q1
      subst this
      exact si_rng1 (h.gl q2) (h.mg _ (by decide +kernel)) (iE_A _ _ _ h q4).se (star_cons q3)
theorem okI_rng2 {A B} (iE_A : OkPE rp P k N A) (iE_B : OkPE rp P k N B) : OkPI rp P k N (.rng2 A B) := by
    intro X nms t e h q
    unfold chkI at q
    cases e <;> first | (cases q; done) | skip
    rename_i g args kws p
    cases g <;> first | (cases q; done) | skip
    rename_i nm fp
    match args, kws, q with
    | [a, b], [], q =>
      simp only [Bool.and_eq_true] at q
      obtain ⟨⟨q1, q2, q3, q4⟩, q5, q6⟩ := q
      have := seq_eq q1
      subst this
      exact si_rng2 (h.gl q2) (h.mg _ (by decide +kernel)) (iE_A _ _ _ h q5).se (iE_B _ _ _ h q6).se (by rw [star_cons q3, star_cons q4]; rfl) (by rw [star_cons q4]; rfl)
theorem okI_zip {A B} (iE_A : OkPE rp P k N A) (iE_B : OkPE rp P k N B) : OkPI rp P k N (.zip A B) := by
    intro X nms t e h q
    unfold chkI at q
    cases e <;> first | (cases q; done) | skip
    cases t <;> first | (simp at q; done) | skip
    rename_i g args kws p elts kk tp
    cases g <;> first | (cases q; done) | skip
    rename_i nm fp
    match args, kws, q with
    | [a, b], [], q =>
      simp only [Bool.and_eq_true] at q
      obtain ⟨⟨q1, q2, q3, q4⟩, q5, q6⟩ := q
      have := seq_eq q1
      subst this
      exact si_zip (h.gl q2) (h.mg _ (by decide +kernel)) (iE_A _ _ _ h q5).se (iE_B _ _ _ h q6).se (star_cons q3) (star_cons q4)
theorem okI_rngS {A B C} (iE_A : OkPE rp P k N A) (iE_B : OkPE rp P k N B) (iE_C : OkPE rp P k N C) : OkPI rp P k N (.rngS A B C) := by
    intro X nms t e h q
    unfold chkI at q
    cases e <;> first | (cases q; done) | skip
    rename_i g args kws p
    cases g <;> first | (cases q; done) | skip
    rename_i nm fp
    match args, kws, q with
    | [a, b, c], [], q =>
      simp only [Bool.and_eq_true] at q
      obtain ⟨⟨q1, q2, q3, q4, q4'⟩, q5, q6, q7⟩ := q
      have := seq_eq q1
      subst this
      exact si_rngS (h.gl q2) (h.mg _ (by decide +kernel)) (iE_A _ _ _ h q5).se (iE_B _ _ _ h q6).se (iE_C _ _ _ h q7).se (star_cons q3) (star_cons q4) (star_cons q4')
theorem okI_bad  : OkPI rp P k N (.bad) := by
    intro X nms t e h q
    exact si_bad
theorem okI_rng3 {x0 x1 x2}  : OkPI rp P k N (.rng3 x0 x1 x2) := by
    intro X nms t e h q
    unfold chkI at q; cases q
theorem okI_enum {A} (iE_A : OkPE rp P k N A) : OkPI rp P k N (.enum A) := by
    intro X nms t e h q
    unfold chkI at q
    cases e <;> first | (cases q; done) | skip
    cases t <;> first | (simp at q; done) | skip
    rename_i g args kws p elts kk tp
    cases g <;> first | (cases q; done) | skip
    rename_i nm fp
    match args, kws, q with
    | [a], [], q =>
      simp only [Bool.and_eq_true] at q
      obtain ⟨⟨q1, q2, q3⟩, q4⟩ := q
      have := seq_eq q1
      subst this
      exact si_enum (h.gl q2) (h.mg _ (by decide +kernel)) (iE_A _ _ _ h q4).se (star_cons q3)
theorem okI_items {x0}  : OkPI rp P k N (.items x0) := by
    intro X nms t e h q
    unfold chkI at q; cases q
theorem keysB_cons {A : E} {es : Es} {ks : List (Option Expr)} (h : keysB (.cons A es) ks = true) : ∃ i p q ks', A = .cst (.int i) ∧ ks = some (.Constant (.int i) p q) :: ks' ∧ keysB es ks' = true := by
  unfold keysB at h
  split at h
  · rename_i j p q ks'
    rw [Bool.and_eq_true] at h
    obtain ⟨h1, h2⟩ := h
    split at h1
    · rename_i i
      have := of_decide_eq_true h1
      subst this
      exact ⟨_, p, q, ks', rfl, rfl, h2⟩
    · cases h1
  · cases h
theorem keysB_ok : ∀ {a : Es} {ks : List (Option Expr)}, keysB a ks = true → ∃ is, keysOf a = some is ∧ is.length = ks.length ∧ ks.all (·.isSome) = true
  | .nil, ks, h => by
    unfold keysB at h
    cases ks with
    | nil => exact ⟨[], rfl, rfl, rfl⟩
    | cons k ks => cases h
  | .cons A es, ks, h => by
    obtain ⟨i, p, q, ks', rfl, rfl, h2⟩ := keysB_cons h
    obtain ⟨is, g1, g2, g3⟩ := keysB_ok h2
    exact ⟨i :: is, by unfold keysOf; rw [g1]; rfl, congrArg (· + 1) g2, by rw [List.all_cons, g3]; rfl⟩
  | .star _ _, ks, h => by unfold keysB at h; cases h
theorem chkEs_es {nms : Nms} : ∀ {A : Es} {l : List Expr}, chkEs N P A nms l = true → esLen A = some l.length
  | .nil, l, h => by
    unfold chkEs at h
    cases l with
    | nil => rfl
    | cons e l => cases h
  | .cons A As, l, h => by
    unfold chkEs at h
    cases l with
    | nil => cases h
    | cons e l =>
      simp only [Bool.and_eq_true] at h
      unfold esLen
      rw [chkEs_es h.2.2]
      rfl
  | .star _ _, l, h => by unfold chkEs at h; cases h
abbrev OkPP (rp : T → Str) (P : List Ent) (k : Nat) (N : List Str) (B : Es) : Prop := ∀ (a : Es) (is : List Int) (X : Cx) (nms : Nms) (keys : List (Option Expr)) (vals : List Expr) (pos : Pos), XOk X rp P k N nms → keysB a keys = true → keysOf a = some is → keys.length = vals.length → chkEs N P B nms vals = true → PPs X pos keys vals (dTr rp (run rp (fds P) k) W0 is B)
theorem okPs_nil : OkPP rp P k N .nil := by
  intro a is X nms keys vals pos h hk hi hl q
  unfold chkEs at q
  cases vals <;> first | (cases q; done) | skip
  cases keys <;> first | (cases hl; done) | skip
  have : is = [] := by
    obtain ⟨is', g1, g2, _⟩ := keysB_ok hk
    rw [hi] at g1
    cases g1
    exact List.length_eq_zero_iff.1 g2
  subst this
  exact pps_nil
theorem okPs_cons {A As} (iE_A : OkPE rp P k N A) (iP_As : OkPP rp P k N As) : OkPP rp P k N (.cons A As) := by
  intro a is X nms keys vals pos h hk hi hl q
  unfold chkEs at q
  cases vals <;> first | (cases q; done) | skip
  rename_i e es
  simp only [Bool.and_eq_true] at q
  cases keys <;> first | (cases hl; done) | skip
  rename_i k0 ks
  cases a with
  | nil => unfold keysB at hk; cases hk
  | star _ _ => unfold keysB at hk; cases hk
  | cons K a =>
    obtain ⟨i, p, q', ks', rfl, e1, hk2⟩ := keysB_cons hk
    cases e1
    obtain ⟨is', g1, _, _⟩ := keysB_ok hk2
    unfold keysOf at hi
    rw [g1] at hi
    cases hi
    exact pps_cons se_int (iE_A _ _ _ h q.2.1).se (iP_As a is' X nms ks es pos h hk2 g1 (by simpa using hl) q.2.2)
theorem okPs_star {A As} : OkPP rp P k N (.star A As) := by
  intro a is X nms keys vals pos h hk hi hl q
  unfold chkEs at q
  cases q
theorem okE_dsp {a b} (iP_b : OkPP rp P k N b) : OkPE rp P k N (.dsp a b) := by
    intro X nms e h q
    unfold chkE at q
    cases e <;> first | (cases q; done) | skip
    rename_i ks vs pos
    simp only [Bool.and_eq_true] at q
    obtain ⟨⟨q1, q2, q3⟩, q4⟩ := q
    have hl := Nat.eq_of_beq_eq_true q2
    obtain ⟨is, g1, g2, g3⟩ := keysB_ok q1
    cases is with
    | nil =>
      have e1 : ks = [] := List.length_eq_zero_iff.1 g2.symm
      subst e1
      have e2 : vs = [] := List.length_eq_zero_iff.1 hl.symm
      subst e2
      cases a <;> first | (unfold keysB at q1; cases q1; done) | skip
      cases b <;> first | (unfold chkEs at q4; cases q4; done) | skip
      exact ok3_plain se_dnew rfl
    | cons i is =>
      exact ok3_plain (se_disp g1 (by rw [chkEs_es q4, ← hl, ← g2]) (iP_b a _ X nms ks vs pos h q1 g1 hl q4) g3 hl (fun z => by rw [z] at g2; cases g2) (Nat.le_of_ble_eq_true q3)) rfl
mutual
theorem okE' : ∀ (A : E), OkPE rp P k N A
  | .var i => okE_var
  | .cst t => okE_cst
  | .bin o A B => okE_bin (okE' A) (okE' B)
  | .neg A => okE_neg (okE' A)
  | .not A => okE_not (okE' A)
  | .and A B => okE_and (okE' A) (okE' B)
  | .or A B => okE_or (okE' A) (okE' B)
  | .cmp o A B => okE_cmp (okE' A) (okE' B)
  | .chain o o' A B C => okE_chain (okE' A) (okE' B) (okE' C)
  | .ite C A B => okE_ite (okE' C) (okE' A) (okE' B)
  | .lst es => okE_lst (okEs' es)
  | .tup es => okE_tup (okEs' es)
  | .idx A B => okE_idx (okE' A) (okE' B)
  | .slc A lo hi => okE_slc (okE' A) (okO' lo) (okO' hi)
  | .isi A cs => okE_isi (okE' A)
  | .call f es => okE_call (okEs' es)
  | .callk f pm es ks => okE_callk (okEs' es) (okKs' ks)
  | .bi b es => okE_bi (okEs' es)
  | .lc elt tg it cs own => okE_lc (okI' it) (okCs' cs) (okE' elt)
  | .bad => okE_bad
  | .rev x0 => okE_rev
  | .fresh A => okE_fresh (okE' A)
  | .lstS es => okE_lstS (okSt' es)
  | .lr1 A => okE_lr1 (okE' A)
  | .lr2 A B => okE_lr2 (okE' A) (okE' B)
  | .lc2 x0 x1 x2 x3 x4 x5 x6 x7 x8 => okE_lc2
  | .dsp a b => okE_dsp (okPs' b)
theorem okO' : ∀ (A : OE), OkPO rp P k N A
  | .no => okO_no
  | .yes A => okO_yes (okE' A)
theorem okEs' : ∀ (A : Es), OkPEs rp P k N A
  | .nil => okEs_nil
  | .cons A As => okEs_cons (okE' A) (okEs' As)
  | .star x0 x1 => okEs_star
theorem okPs' : ∀ (A : Es), OkPP rp P k N A
  | .nil => okPs_nil
  | .cons A As => okPs_cons (okE' A) (okPs' As)
  | .star x0 x1 => okPs_star
theorem okSt' : ∀ (A : Es), OkPSt rp P k N A
  | .nil => okSt_nil
  | .cons A As => okSt_cons (okE' A) (okSt' As)
  | .star A As => okSt_star (okE' A) (okSt' As)
theorem okKs' : ∀ (A : Es), OkPKs rp P k N A
  | .nil => okKs_nil
  | .cons A As => okKs_cons (okE' A) (okKs' As)
  | .star x0 x1 => okKs_star
theorem okCs' : ∀ (A : Es), OkPCs rp P k N A
  | .nil => okCs_nil
  | .cons A As => okCs_cons (okE' A)
  | .star x0 x1 => okCs_star
theorem okI' : ∀ (A : It), OkPI rp P k N A
  | .seq A => okI_seq (okE' A)
  | .rng1 A => okI_rng1 (okE' A)
  | .rng2 A B => okI_rng2 (okE' A) (okE' B)
  | .zip A B => okI_zip (okE' A) (okE' B)
  | .rngS A B C => okI_rngS (okE' A) (okE' B) (okE' C)
  | .bad => okI_bad
  | .rng3 x0 x1 x2 => okI_rng3
  | .enum A => okI_enum (okE' A)
  | .items x0 => okI_items
end
theorem okE (A : E) {X : Cx} {nms : Nms} {e : Expr} (h : XOk X rp P k N nms) (q : chkE N P A nms e = true) : Ok3 X rp (run rp (fds P) k) e A := okE' A X nms e h q
theorem okO (A : OE) {X : Cx} {nms : Nms} {e : Option Expr} (h : XOk X rp P k N nms) (q : chkO N P A nms e = true) : SO X rp (run rp (fds P) k) W0 e A := okO' A X nms e h q
theorem okEs (A : Es) {X : Cx} {nms : Nms} {e : List Expr} (h : XOk X rp P k N nms) (q : chkEs N P A nms e = true) : SA X rp (run rp (fds P) k) W0 e A := okEs' A X nms e h q
theorem okKs (A : Es) {X : Cx} {nms : Nms} {e : List Keyword} (h : XOk X rp P k N nms) (q : chkKs N P A nms e = true) : SK X rp (run rp (fds P) k) W0 e A := okKs' A X nms e h q
theorem okCs (A : Es) {X : Cx} {nms : Nms} {e : List Expr} (h : XOk X rp P k N nms) (q : chkCs N P A nms e = true) : SCs X rp (run rp (fds P) k) W0 e A := okCs' A X nms e h q
theorem okI (A : It) {X : Cx} {nms : Nms} {t e : Expr} (h : XOk X rp P k N nms) (q : chkI N P A nms t e = true) : SI X rp (run rp (fds P) k) W0 t e A := okI' A X nms t e h q
end
end TM

set_option Elab.async false
set_option linter.all false
set_option maxRecDepth 100000
set_option maxHeartbeats 8000000
namespace TM
open PySem PySem.Spec L2

def swB (nms : Nms) (t : Str) (tp : Pos) : Expr → Bool
  | .ListComp _ _ s p => isLoc (look nms t) && (Nat.beq tp.line p.line && !(s.names.any fun q => seq q.1 t && (isLoc (some q.2) || isCel (some q.2))))
  | .SetComp _ _ s p => isLoc (look nms t) && (Nat.beq tp.line p.line && !(s.names.any fun q => seq q.1 t && (isLoc (some q.2) || isCel (some q.2))))
  | .DictComp _ _ _ s p => isLoc (look nms t) && (Nat.beq tp.line p.line && !(s.names.any fun q => seq q.1 t && (isLoc (some q.2) || isCel (some q.2))))
  | _ => false
def parN (nms : Nms) (line : Nat) : List Expr → Option (List Str)
  | [] => some []
  | .Name id pos :: r => if isLoc (look nms id) && Nat.beq pos.line line then (parN nms line r).map (id :: ·) else none
  | _ :: _ => none
def isLc : E → Bool
  | .lc .. => true
  | _ => false
def rngB : It → Bool
  | .rng1 _ => true
  | .rng2 _ _ => true
  | .rngS _ _ _ => true
  | _ => false
def allTrueN (cel : Str) : Bool := true
def plainTg : Expr → Bool
  | .Name _ _ => true
  | .Tuple _ _ _ => true
  | _ => false
def distN : List Nat → Bool
  | [] => true
  | i :: is => !(is.any fun j => Nat.beq i j) && distN is

section
variable (N : List Str) (P : List Ent) (nms : Nms) (sp : Bool)
mutual
def chkS : S → Stmt → Bool
  | .asg tg A _, s => match s with
    | .Assign [.Name x p] e _ => tgB N nms allTrueN tg (.Name x p) && (chkE N P A nms e && (!(swB nms x p e) || isLc A))
    | .Assign [.Tuple ts a b] e _ => tgB N nms allTrueN tg (.Tuple ts a b) && (chkE N P A nms e && notTup e)
    | _ => false
  | .par is As _, s => match s with
    | .Assign [.Tuple ts a b] (.Tuple es _ _) _ => (tgsB N nms allTrueN is ts && chkEs N P As nms es) && (match is, ts with
      | [i, j], [.Name x p, .Name y q] => if es.all (foldedForSure 8) then true else if !(isLoc (look nms x) && isLoc (look nms y)) then true else (!(Nat.beq i j) && (isLoc (look nms x) && (isLoc (look nms y) && (Nat.beq p.line q.line && (!(es.all (constantsAlone 8)) && Nat.beq es.length 2)))))
      | [i, j, l], [.Name x p, .Name y q, .Name z r] => if es.all (foldedForSure 8) then true else if !(isLoc (look nms x) && (isLoc (look nms y) && isLoc (look nms z))) then true else (!(Nat.beq i j) && (!(Nat.beq i l) && (!(Nat.beq j l) && (isLoc (look nms x) && (isLoc (look nms y) && (isLoc (look nms z) && (Nat.beq p.line q.line && (Nat.beq p.line r.line && (!(es.all (constantsAlone 8)) && Nat.beq es.length 3)))))))))
      | _ :: _ :: _ :: _ :: _, _ => Nat.ble is.length LINE && Nat.beq is.length ts.length
      | _, _ => false)
    | _ => false
  | .mov i j, s => match s with
    | .Assign [.Name x _] (.Name y _) _ => stoB N nms allTrueN i x && varB N nms j y
    | _ => false
  | .sto i C A _, s => match s with
    | .Assign [.Subscript (.Name x _) c _] e _ => varB N nms i x && (notSlice c && (chkE N P C nms c && chkE N P A nms e))
    | _ => false
  | .stod i C A _, s => match s with
    | .Assign [.Subscript (.Name x _) c _] e _ => varB N nms i x && (notSlice c && (chkE N P C nms c && chkE N P A nms e))
    | _ => false
  | .app i A _, s => match s with
    | .Expr (.Call (.Attribute (.Name x _) m apos) [e] [] cpos) _ => (seq m "append" && Nat.beq apos.endLine cpos.line) && (varB N nms i x && (noStar e && chkE N P A nms e))
    | _ => false
  | .ext i A _, s => match s with
    | .Expr (.Call (.Attribute (.Name x _) m apos) [e] [] cpos) _ => (seq m "extend" && Nat.beq apos.endLine cpos.line) && (varB N nms i x && (noStar e && chkE N P A nms e))
    | _ => false
  | .exp A, s => match s with
    | .Expr e _ => notComp e && chkE N P A nms e
    | _ => false
  | .ret A, s => match s with
    | .Return (some e) _ => chkE N P A nms e
    | _ => false
  | .retv i, s => match s with
    | .Return (some (.Name x _)) _ => varB N nms i x
    | _ => false
  | .retn, s => match s with
    | .Return none _ => true
    | _ => false
  | .iff C a b, s => match s with
    | .If c s1 s2 _ => (tst C && chkE N P C nms c) && (chkSs a s1 && chkSs b s2)
    | _ => false
  | .for tg it b _, s => match s with
    | .For t i body [] _ => (notSet i && chkI N P it nms t i) && (tgB N nms allTrueN tg t && chkSs b body)
    | _ => false
  | .fori tg C A B b _, s => match s with
    | .For t (.IfExp c x y _) body [] _ => ((tst C && chkE N P C nms c) && (chkE N P A nms x && chkE N P B nms y)) && (tgB N nms allTrueN tg t && chkSs b body)
    | _ => false
  | .forr tg it b, s => match s with
    | .For t i body [] _ => (notSet i && (rngB it && chkI N P it nms t i)) && (tgB N nms allTrueN tg t && chkSs b body)
    | _ => false
  | .whl _ C b, s => match s with
    | .While c body [] _ => (tst C && chkE N P C nms c) && chkSs b body
    | _ => false
  | .pass, s => match s with
    | .Pass _ => true
    | _ => false
  | .brk, s => match s with
    | .Break _ => true
    | _ => false
  | .spoil i, s => match s with
    | .Expr (.Call (.Name nm _) [.Name x _] [] _) _ => (sp && (seq nm "_law_spoilt" && glB nms nm)) && varB N nms i x
    | _ => false
  | .spoilx _ A, s => match s with
    | .Expr (.Call (.Name nm _) [e] [] _) _ => (sp && (seq nm "_law_spoilt" && glB nms nm)) && (noStar e && chkE N P A nms e)
    | _ => false
  | .apop i j A _, s => match s with
    | .Expr (.Call (.Attribute (.Name x _) m apos) [.Call (.Attribute (.Name y _) m2 apos2) [e] [] cpos2] [] cpos) _ => ((seq m "append" && Nat.beq apos.endLine cpos.line) && (seq m2 "pop" && Nat.beq apos2.endLine cpos2.line)) && ((varB N nms i x && varB N nms j y) && (noStar e && chkE N P A nms e))
    | _ => false
  | .popv tg j, s => match s with
    | .Assign [tge] (.Call (.Attribute (.Name y _) m apos) [] [] cpos) _ => (tgB N nms allTrueN tg tge && (plainTg tge)) && (varB N nms j y && (seq m "pop" && Nat.beq apos.endLine cpos.line))
    | _ => false
  | .bad, _ => true
  | _, _ => false
def chkSs : Ss → List Stmt → Bool
  | .nil, l => match l with
    | [] => true
    | _ :: _ => false
  | .cons s ss, l => match l with
    | [] => false
    | st :: sts => chkS s st && chkSs ss sts
  | .kill _ ss, l => chkSs ss l
end
end

/-- the def that spoils -/
def SpoilOk (prog : Program) (w : World) (K : PySem.W.Frag) (mg : Str → Option Value) (base : Heap) : Prop := ∃ adr fd, FnG prog w K mg base 7 adr fd ["thing"] (spSpoil 6) ∧ mg "_law_spoilt" = some (.ref adr) ∧ PySem.W.keepIn K (.ref adr) = true ∧ Binds K fd ["thing"] []
structure XOkS (X : Cx) (rp : T → Str) (P : List Ent) (k : Nat) (N : List Str) (nms : Nms) (sp : Bool) : Prop extends XOk X rp P k N nms where
  fn : ∀ x, X.fn x = true
  hp : PassesOwn (model X.prog X.w) X.A X.env X.xe
  spo : sp = true → 7 ≤ k ∧ SpoilOk X.prog X.w X.K X.mg X.base
section
variable {X : Cx} {rp : T → Str} {P : List Ent} {k : Nat} {N : List Str} {nms : Nms} {call : Nat → List T → R Val} {pos p : Pos}
theorem XOk.bk (h : XOk X rp P k N nms) : X.env.blockKind = .function := by
  unfold Env.blockKind
  rw [h.kind]
  rfl
theorem natbeq (a b : Nat) : (a == b) = Nat.beq a b := by
  rw [Bool.eq_iff_iff]
  simp [Nat.beq_eq_true_eq]
theorem any_congr' (l : Nms) (t : Str) : (l.any fun (n, k) => n == t && (k == .local || k == .cell)) = (l.any fun q => seq q.1 t && (isLoc (some q.2) || isCel (some q.2))) := by
  congr 1
  funext ⟨n, k⟩
  dsimp only
  rw [seq_beq]
  cases k <;> rfl
theorem sw_eq (h : XOk X rp P k N nms) {e : Expr} {t : Str} {tp : Pos} {l : Nat} : swapsWith e (some (.Name t tp)) l X.env = pure (swB nms t tp e) := by
  have hb : (X.env.blockKind == .function) = true := by rw [h.bk]; rfl
  have hk : ∀ t, (X.env.kindOf t == some .local) = isLoc (look nms t) := fun t => by
    unfold Env.kindOf
    rw [h.look]
    cases look nms t with
    | none => rfl
    | some k => cases k <;> rfl
  have key : ∀ (s : Scope) (p : Pos), (X.env.blockKind == .function && X.env.kindOf t == some .local && tp.line == p.line && !(s.names.any fun (n, k) => n == t && (k == .local || k == .cell))) = (isLoc (look nms t) && (Nat.beq tp.line p.line && !(s.names.any fun q => seq q.1 t && (isLoc (some q.2) || isCel (some q.2))))) := fun s p => by
    rw [hb, hk, any_congr', Bool.true_and, Bool.and_assoc, natbeq]
  cases e <;> first | rfl | skip
  · exact congrArg pure (key _ _)
  · exact congrArg pure (key _ _)
  · exact congrArg pure (key _ _)
theorem sw_sole_tup {e : Expr} {ts : List Expr} {a : Nat} {b : Pos} {l : Nat} {env : PySem.Env} : swapsWithSole [.Tuple ts a b] e l env = pure false := by cases e <;> rfl
theorem sw_sole_sub {e o c : Expr} {b : Pos} {l : Nat} {env : PySem.Env} : swapsWithSole [.Subscript o c b] e l env = pure false := by cases e <;> rfl
theorem ss_none_tup {e : Expr} {ts : List Expr} {a : Nat} {b : Pos} {env : PySem.Env} (h : notTup e = true) : swappedStores [.Tuple ts a b] e env = pure none := by cases e <;> first | rfl | cases h
theorem ss_none_sub {e o c : Expr} {b : Pos} {env : PySem.Env} : swappedStores [.Subscript o c b] e env = pure none := by cases e <;> rfl
theorem sw_none {e : Expr} {l : Nat} {env : PySem.Env} (h : notComp e = true) : swapsWith e none l env = pure false := by cases e <;> first | rfl | cases h
theorem few_ok {e : Expr} {cpos : Pos} {env : PySem.Env} (h : noStar e = true) : ((backTo cpos (starEach [e] env)).all (fun x => !x.1) && (backToKw cpos (keywordEach [] env)).all (fun x => x.1.isSome) && decide ([e].length + ([] : List Keyword).length + (if ([] : List Keyword).isEmpty then 0 else 1) < 30)) = true := by
  rw [star_cons h]
  rfl
theorem ass1_tup {ts : List Expr} {a : Nat} {b : Pos} {env : PySem.Env} : (assignEach [.Tuple ts a b] env).map (·.2) = [assign (.Tuple ts a b) env] := rfl
theorem notStar_any : ∀ {es : List Expr}, (∀ e ∈ es, noStar e = true) → (es.any fun | .Starred .. => true | _ => false) = false
  | [], _ => rfl
  | e :: es, h => by
    have h1 := h e List.mem_cons_self
    have h2 := notStar_any fun e he => h e (List.mem_cons_of_mem _ he)
    rw [List.any_cons, h2, Bool.or_false]
    cases e <;> first | rfl | cases h1
theorem swapped_fold {ts es : List Expr} {a c : Nat} {b d : Pos} {env : PySem.Env} (h : es.all (foldedForSure 8) = true) : swappedStores [.Tuple ts a b] (.Tuple es c d) env = pure none := by
  unfold swappedStores
  dsimp only
  split
  · rfl
  · split
    · rfl
    · split
      · rfl
      · first | rfl | (rw [h]; rfl)
theorem swapped_long {ts es : List Expr} {a c : Nat} {b d : Pos} {env : PySem.Env} (h : 4 ≤ ts.length) : swappedStores [.Tuple ts a b] (.Tuple es c d) env = pure none := by
  unfold swappedStores
  dsimp only
  rw [if_pos]
  simp
  omega
theorem swapped_n (h : XOk X rp P k N nms) {ts es : List Expr} {ns : List Str} {a c : Nat} {b d : Pos} (l23 : ts.length = 2 ∨ ts.length = 3) (hl : es.length = ts.length) (hs : ∀ e ∈ es, noStar e = true) (hf : es.all (foldedForSure 8) = false) (hca : es.all (constantsAlone 8) = false)
    (hn : (ts.filterMap fun e => match e with
      | .Name id pos => if X.env.kindOf id == some .local && pos.line == (ts.head?.map (·.pos.line)).getD 0 then some id else none
      | _ => none) = ns) (h1 : ns.length = ts.length) (h2 : ns.eraseDups.length = ns.length) :
    swappedStores [.Tuple ts a b] (.Tuple es c d) X.env = pure (some ns) := by
  unfold swappedStores
  dsimp only
  rw [if_neg (by rcases l23 with e | e <;> simp [h.bk, hl, e])]
  split
  · rename_i z
    exact absurd (Eq.trans (Eq.symm z) (notStar_any hs)) (by decide)
  · split
    · rename_i z
      have z : (((ts.filterMap fun e => match e with
        | .Name id pos => if X.env.kindOf id == some .local && pos.line == (ts.head?.map (·.pos.line)).getD 0 then some id else none
        | _ => none).length != ts.length) || ((ts.filterMap fun e => match e with
        | .Name id pos => if X.env.kindOf id == some .local && pos.line == (ts.head?.map (·.pos.line)).getD 0 then some id else none
        | _ => none).eraseDups.length != (ts.filterMap fun e => match e with
        | .Name id pos => if X.env.kindOf id == some .local && pos.line == (ts.head?.map (·.pos.line)).getD 0 then some id else none
        | _ => none).length)) = true := z
      rw [hn, h2, h1] at z
      simp at z
    · rw [hf, hca]
      exact congrArg (fun l => pure (some l)) hn
theorem kof (h : XOk X rp P k N nms) {t : Str} (ht : isLoc (look nms t) = true) : X.env.kindOf t = some .local := by
  unfold Env.kindOf
  rw [h.look]
  exact isLoc_eq ht
theorem kofN (h : XOk X rp P k N nms) (t : Str) : (X.env.kindOf t == some .local) = isLoc (look nms t) := by
  have e : X.env.kindOf t = look nms t := by
    unfold Env.kindOf
    rw [h.look]
  rw [e]
  cases look nms t with
  | none => rfl
  | some k => cases k <;> rfl
theorem fm_cons (h : XOk X rp P k N nms) (l : Nat) (x : Str) (p : Pos) (ts : List Expr) : ((Expr.Name x p :: ts).filterMap fun e => match e with
    | .Name id pos => if X.env.kindOf id == some .local && pos.line == l then some id else none
    | _ => none).length ≤ (if isLoc (look nms x) = true then 1 else 0) + (ts.filterMap fun e => match e with
    | .Name id pos => if X.env.kindOf id == some .local && pos.line == l then some id else none
    | _ => none).length := by
  rw [List.filterMap_cons]
  dsimp only
  rw [kofN h]
  cases isLoc (look nms x)
  · simp
  · by_cases hp : (p.line == l) = true
    · simp [hp]; omega
    · simp [hp]
theorem swapped_cel {ts es : List Expr} {a c : Nat} {b d : Pos} (hn : (ts.filterMap fun e => match e with
      | .Name id pos => if X.env.kindOf id == some .local && pos.line == (ts.head?.map (·.pos.line)).getD 0 then some id else none
      | _ => none).length < ts.length) : swappedStores [.Tuple ts a b] (.Tuple es c d) X.env = pure none := by
  unfold swappedStores
  dsimp only
  split
  · rfl
  · split
    · rfl
    · rw [if_pos]
      rw [Bool.or_eq_true]
      left
      exact bne_iff_ne.2 (Nat.ne_of_lt hn)
theorem swapped_cel2 (h : XOk X rp P k N nms) {x y : Str} {p q : Pos} {es : List Expr} {a c : Nat} {b d : Pos} (hc : (!(isLoc (look nms x) && isLoc (look nms y))) = true) : swappedStores [.Tuple [.Name x p, .Name y q] a b] (.Tuple es c d) X.env = pure none := by
  refine swapped_cel ?_
  generalize (([Expr.Name x p, Expr.Name y q].head?.map (·.pos.line)).getD 0) = l
  have h1 := fm_cons h l x p [.Name y q]
  have h2 := fm_cons h l y q []
  rw [List.filterMap_nil, List.length_nil] at h2
  have h0 : (if isLoc (look nms x) = true then 1 else 0) + (if isLoc (look nms y) = true then 1 else 0) ≤ 1 := by
    revert hc
    cases isLoc (look nms x) <;> cases isLoc (look nms y) <;> decide
  exact Nat.lt_succ_of_le (Nat.le_trans h1 (Nat.le_trans (Nat.add_le_add_left h2 _) h0))
theorem swapped_cel3 (h : XOk X rp P k N nms) {x y z : Str} {p q r : Pos} {es : List Expr} {a c : Nat} {b d : Pos} (hc : (!(isLoc (look nms x) && (isLoc (look nms y) && isLoc (look nms z)))) = true) : swappedStores [.Tuple [.Name x p, .Name y q, .Name z r] a b] (.Tuple es c d) X.env = pure none := by
  refine swapped_cel ?_
  generalize (([Expr.Name x p, Expr.Name y q, Expr.Name z r].head?.map (·.pos.line)).getD 0) = l
  have h1 := fm_cons h l x p [.Name y q, .Name z r]
  have h2 := fm_cons h l y q [.Name z r]
  have h3 := fm_cons h l z r []
  rw [List.filterMap_nil, List.length_nil] at h3
  have h0 : (if isLoc (look nms x) = true then 1 else 0) + ((if isLoc (look nms y) = true then 1 else 0) + (if isLoc (look nms z) = true then 1 else 0)) ≤ 2 := by
    revert hc
    cases isLoc (look nms x) <;> cases isLoc (look nms y) <;> cases isLoc (look nms z) <;> decide
  exact Nat.lt_succ_of_le (Nat.le_trans h1 (Nat.le_trans (Nat.add_le_add_left (Nat.le_trans h2 (Nat.add_le_add_left h3 _)) _) h0))
theorem swapped_2 (h : XOk X rp P k N nms) {x y : Str} {p q : Pos} {es : List Expr} {a c : Nat} {b d : Pos} (h1 : isLoc (look nms x) = true) (h2 : isLoc (look nms y) = true) (h3 : p.line = q.line) (hxy : x ≠ y) (hl : es.length = 2) (hs : ∀ e ∈ es, noStar e = true) (hf : es.all (foldedForSure 8) = false) (hca : es.all (constantsAlone 8) = false) :
    swappedStores [.Tuple [.Name x p, .Name y q] a b] (.Tuple es c d) X.env = pure (some [x, y]) :=
  swapped_n h (.inl rfl) hl hs hf hca (by simp [kof h h1, kof h h2, h3, Expr.pos]) rfl (by
    have hxy' : (y == x) = false := beq_false_of_ne (Ne.symm hxy)
    simp [List.eraseDups, List.eraseDupsBy, List.eraseDupsBy.loop, hxy'])
theorem swapped_3 (h : XOk X rp P k N nms) {x y z : Str} {p q r : Pos} {es : List Expr} {a c : Nat} {b d : Pos} (h1 : isLoc (look nms x) = true) (h2 : isLoc (look nms y) = true) (h3 : isLoc (look nms z) = true) (h4 : p.line = q.line) (h5 : p.line = r.line) (hxy : x ≠ y) (hxz : x ≠ z) (hyz : y ≠ z) (hl : es.length = 3) (hs : ∀ e ∈ es, noStar e = true) (hf : es.all (foldedForSure 8) = false) (hca : es.all (constantsAlone 8) = false) :
    swappedStores [.Tuple [.Name x p, .Name y q, .Name z r] a b] (.Tuple es c d) X.env = pure (some [x, y, z]) :=
  swapped_n h (.inr rfl) hl hs hf hca (by simp [kof h h1, kof h h2, kof h h3, ← h4, ← h5, Expr.pos]) rfl (by
    have a1 : (y == x) = false := beq_false_of_ne (Ne.symm hxy)
    have a2 : (z == x) = false := beq_false_of_ne (Ne.symm hxz)
    have a3 : (z == y) = false := beq_false_of_ne (Ne.symm hyz)
    simp [List.eraseDups, List.eraseDupsBy, List.eraseDupsBy.loop, a1, a2, a3])
end
end TM

set_option Elab.async false
set_option linter.all false
set_option maxRecDepth 100000
set_option maxHeartbeats 8000000
namespace TM
open PySem PySem.Spec L2

section
variable {rp : T → Str} {P : List Ent} {k : Nat} {N : List Str} {nms : Nms} {sp : Bool}
theorem chkEs_ns {es : Es} : ∀ {l : List Expr}, chkEs N P es nms l = true → ∀ e ∈ l, noStar e = true := by
  intro l
  induction l generalizing es with
  | nil => intro _ e he; cases he
  | cons e l ih =>
    intro h
    cases es with
    | nil => unfold chkEs at h; cases h
    | star _ _ => unfold chkEs at h; cases h
    | cons A As =>
      unfold chkEs at h
      simp only [Bool.and_eq_true] at h
      intro x hx
      rcases List.mem_cons.mp hx with q | q
      · rw [q]; exact h.1
      · exact ih h.2.2 x q
theorem nbeq_ne {i j : Nat} (h : (!(Nat.beq i j)) = true) : i ≠ j := by
  intro e
  subst e
  rw [Nat.beq_refl] at h
  cases h
theorem at_ne {i j : Nat} {x y : Str} (nd : N.Nodup) (h1 : N[i]? = some x) (h2 : N[j]? = some y) (h : i ≠ j) : x ≠ y := by
  intro e
  subst e
  obtain ⟨l1, e1⟩ := List.getElem?_eq_some_iff.1 h1
  exact h ((List.getElem?_inj l1 nd).1 (h1.trans h2.symm))
theorem stoB_at {cel : Str → Bool} {i : Nat} {x : Str} (q : stoB N nms cel i x = true) : N[i]? = some x := by
  unfold stoB at q
  rw [Bool.and_eq_true] at q
  exact atN_eq q.1
theorem not_true_f {b : Bool} (h : (!b) = true) : b = false := by cases b <;> first | rfl | cases h
theorem ok_asgLc {X : Cx} (h : XOkS X rp P k N nms sp) {i : Nat} {x : Str} {p : Pos} {e : Expr} {A : E} {pos : Pos} {fz : List Nat} (q1 : stoB N nms allTrueN i x = true) (q2 : chkE N P A nms e = true) (q3 : swB nms x p e = true) (q4 : isLc A = true) :
    SS X rp (run rp (fds P) k) W0 (.Assign [.Name x p] e pos) (.asg (.nm i) A fz) := by
  cases A <;> first | (cases q4; done) | skip
  rename_i elt tg it cs own
  unfold chkE at q2
  cases e <;> first | (cases q2; done) | skip
  rename_i el gens scope lp
  match gens, q2 with
  | [⟨t, it', ifs, 0⟩], q2 =>
    simp only [Bool.and_eq_true] at q2
    obtain ⟨⟨r1, r2, r3⟩, r4, r5, r6, r7⟩ := q2
    have kd := blkB_kind r1
    obtain ⟨g1, g2, g3⟩ := stoB_ok h.toXOk (fun x _ => h.fn x) q1
    have hl : isLoc (look nms x) = true := by
      have z : (isLoc (look nms x) && _) = true := q3
      rw [Bool.and_eq_true] at z
      exact z.1
    refine ss_asgLc h.calm h.ndX g1 (kof h.toXOk hl) (by rw [sw_eq h.toXOk, q3]) (blkB_ok h.toXOk r1) (ownL_snd N own) (okI it h.toXOk r4) (fun s H C cl fp => ?_) (subL_ok r2) (fun s H C cl fp => okCs cs (h.toXOk.blk kd s H C cl fp) r6) (fun s H C cl fp => (okE elt (h.toXOk.blk kd s H C cl fp) r7).se) (fun x => fold_pure r3 x)
    refine tgB_ok (h.toXOk.blk kd s H C cl fp) (fun x hx => ?_) r5
    show (scope.names.lookup x == some .cell) = true
    rw [← look_eq, isCel_k]
    exact hx
theorem okIr {X : Cx} (h : XOk X rp P k N nms) : ∀ {I : It} {t e : Expr}, rngB I = true → chkI N P I nms t e = true → SIr X rp (run rp (fds P) k) W0 t e I := by
  intro A t e hr q
  cases A <;> first | (cases hr; done) | skip
  case rng1 A =>
    unfold chkI at q
    cases e <;> first | (cases q; done) | skip
    rename_i g args kws p
    cases g <;> first | (cases q; done) | skip
    rename_i nm fp
    match args, kws, q with
    | [a], [], q =>
      simp only [Bool.and_eq_true] at q
      obtain ⟨⟨q1, q2, q3⟩, q4⟩ := q
      have := seq_eq q1
      subst this
      exact sir_rng1 (h.gl q2) (h.mg _ (by decide +kernel)) (okE A h q4).se (star_cons q3)
  case rng2 A B =>
    unfold chkI at q
    cases e <;> first | (cases q; done) | skip
    rename_i g args kws p
    cases g <;> first | (cases q; done) | skip
    rename_i nm fp
    match args, kws, q with
    | [a, b], [], q =>
      simp only [Bool.and_eq_true] at q
      obtain ⟨⟨q1, q2, q3, q4⟩, q5, q6⟩ := q
      have := seq_eq q1
      subst this
      exact sir_rng2 (h.gl q2) (h.mg _ (by decide +kernel)) (okE A h q5).se (okE B h q6).se (by rw [star_cons q3, star_cons q4]; rfl) (by rw [star_cons q4]; rfl)
  case rngS A B C =>
    unfold chkI at q
    cases e <;> first | (cases q; done) | skip
    rename_i g args kws p
    cases g <;> first | (cases q; done) | skip
    rename_i nm fp
    match args, kws, q with
    | [a, b, c], [], q =>
      simp only [Bool.and_eq_true] at q
      obtain ⟨⟨q1, q2, q3, q4, q4'⟩, q5, q6, q7⟩ := q
      have := seq_eq q1
      subst this
      exact sir_rngS (h.gl q2) (h.mg _ (by decide +kernel)) (okE A h q5).se (okE B h q6).se (okE C h q7).se (star_cons q3) (star_cons q4) (star_cons q4')

theorem ok_spoilx {X : Cx} (h : XOkS X rp P k N nms sp) {mv : List Nat} {A : E} {st : Stmt} (q : chkS N P nms sp (.spoilx mv A) st = true) : SS X rp (run rp (fds P) k) W0 st (.spoilx mv A) := by
  unfold chkS at q
  cases st <;> first | (cases q; done) | skip
  rename_i e pos
  match e, q with
  | .Call (.Name nm p) [e] [] cpos, q =>
    dsimp only at q
    simp only [Bool.and_eq_true] at q
    obtain ⟨⟨q1, q2, q3⟩, q4, q5⟩ := q
    have := seq_eq q2
    subst this
    obtain ⟨hk, adr, fd, f1, f2, f3, f4⟩ := h.spo q1
    exact ss_spoilx (h.room.mono hk) h.gd f1 (h.gl q3) f2 f3 f4 (okE A h.toXOk q5).se (star_cons q4)
theorem ok_apop {X : Cx} (h : XOkS X rp P k N nms sp) {i j : Nat} {A : E} {fz : List Nat} {st : Stmt} (q : chkS N P nms sp (.apop i j A fz) st = true) : SS X rp (run rp (fds P) k) W0 st (.apop i j A fz) := by
  unfold chkS at q
  cases st <;> first | (cases q; done) | skip
  rename_i e pos
  match e, q with
  | .Call (.Attribute (.Name x p) m apos) [.Call (.Attribute (.Name y p2) m2 apos2) [e] [] cpos2] [] cpos, q =>
    dsimp only at q
    simp only [Bool.and_eq_true] at q
    obtain ⟨⟨⟨q1, q2⟩, q3, q4⟩, ⟨q5, q6⟩, q7, q8⟩ := q
    have := seq_eq q1
    subst this
    have := seq_eq q3
    subst this
    unfold varB at q5 q6
    rw [Bool.and_eq_true] at q5 q6
    obtain ⟨d1, d2⟩ := h.dbgAt q5.1
    obtain ⟨d3, d4⟩ := h.dbgAt q6.1
    exact ss_apop (h.at q5.1) (h.vis q5.2) d1 d2 (h.at q6.1) (h.vis q6.2) d3 d4 (okE A h.toXOk q8).se (star_cons q7) (by rw [natbeq]; exact q2) (by rw [natbeq]; exact q4) (few_ok q7)
theorem ok_popv {X : Cx} (h : XOkS X rp P k N nms sp) {tg : Tg} {j : Nat} {st : Stmt} (q : chkS N P nms sp (.popv tg j) st = true) : SS X rp (run rp (fds P) k) W0 st (.popv tg j) := by
  unfold chkS at q
  cases st <;> first | (cases q; done) | skip
  rename_i ts e pos
  match ts, e, q with
  | [tge], .Call (.Attribute (.Name y p) m apos) [] [] cpos, q =>
    dsimp only at q
    simp only [Bool.and_eq_true] at q
    obtain ⟨⟨q1, q2⟩, q3, q4, q5⟩ := q
    have := seq_eq q4
    subst this
    unfold varB at q3
    rw [Bool.and_eq_true] at q3
    obtain ⟨d1, d2⟩ := h.dbgAt q3.1
    cases tge <;> first | (cases q2; done) | skip
    · rename_i x px
      exact ss_popv (h.at q3.1) (h.vis q3.2) d1 d2 (tgB_ok h.toXOk (fun x _ => h.fn x) q1) (by rw [natbeq]; exact q5) rfl rfl rfl
    · exact ss_popv (h.at q3.1) (h.vis q3.2) d1 d2 (tgB_ok h.toXOk (fun x _ => h.fn x) q1) (by rw [natbeq]; exact q5) sw_sole_tup (ss_none_tup rfl) rfl

theorem ok_par {X : Cx} (h : XOkS X rp P k N nms sp) {is : List Nat} {As : Es} {fz : List Nat} {st : Stmt} (q : chkS N P nms sp (.par is As fz) st = true) : SS X rp (run rp (fds P) k) W0 st (.par is As fz) := by
  unfold chkS at q
  cases st <;> first | (cases q; done) | skip
  rename_i ts e pos
  match ts, e, q with
  | [.Tuple ts a b], .Tuple es c d, q =>
    dsimp only at q
    simp only [Bool.and_eq_true] at q
    obtain ⟨⟨q1, q2⟩, q3⟩ := q
    obtain ⟨g1, g2, g3⟩ := tgsB_ok h.toXOk (fun x _ => h.fn x) q1
    have ha := okEs As h.toXOk q2
    have hns := chkEs_ns q2
    have long : Nat.ble is.length LINE = true → swappedStores [.Tuple ts a b] (.Tuple es c d) X.env = pure none → SS X rp (run rp (fds P) k) W0 (.Assign [.Tuple ts a b] (.Tuple es c d) pos) (.par is As fz) := fun hn hw =>
      ss_parT hn (pg_tup h.calm g1 g2 (findIdx_none g3)) ha rfl hw rfl
    split at q3
    · rename_i i j x p y r
      split at q3
      · rename_i hf
        exact long rfl (swapped_fold hf)
      · rename_i hf
        split at q3
        · rename_i hc
          exact long rfl (swapped_cel2 h.toXOk hc)
        simp only [Bool.and_eq_true] at q3
        obtain ⟨s1, s2, s3, s4, s5, s6⟩ := q3
        unfold tgsB at q1
        rw [Bool.and_eq_true] at q1
        have q1b := q1.2
        unfold tgsB at q1b
        rw [Bool.and_eq_true] at q1b
        have i1 := stoB_at q1.1
        have i2 := stoB_at q1b.1
        have hij := nbeq_ne s1
        have hxy := at_ne h.nd i1 i2 hij
        have l2 : es.length = 2 := Nat.eq_of_beq_eq_true s6
        match es, l2, ha, hns, hf, s5 with
        | [ea, eb], l2, ha, hns, hf, s5 =>
          exact ss_par2 h.calm h.ndX (by rw [h.hN]; exact i1) (by rw [h.hN]; exact i2) hij (kof h.toXOk s2) (kof h.toXOk s3) ha (swapped_2 h.toXOk s2 s3 (Nat.eq_of_beq_eq_true s4) hxy rfl hns (Bool.eq_false_iff.2 hf) (not_true_f s5))
    · rename_i i j l x p y r z r2
      split at q3
      · rename_i hf
        exact long rfl (swapped_fold hf)
      · rename_i hf
        split at q3
        · rename_i hc
          exact long rfl (swapped_cel3 h.toXOk hc)
        simp only [Bool.and_eq_true] at q3
        obtain ⟨s1, s2, s3, s4, s5, s6, s7, s8, s9, s10⟩ := q3
        unfold tgsB at q1
        rw [Bool.and_eq_true] at q1
        have q1b := q1.2
        unfold tgsB at q1b
        rw [Bool.and_eq_true] at q1b
        have q1c := q1b.2
        unfold tgsB at q1c
        rw [Bool.and_eq_true] at q1c
        have i1 := stoB_at q1.1
        have i2 := stoB_at q1b.1
        have i3 := stoB_at q1c.1
        have l3 : es.length = 3 := Nat.eq_of_beq_eq_true s10
        match es, l3, ha, hns, hf, s9 with
        | [ea, eb, ec], l2, ha, hns, hf, s9 =>
          exact ss_par3 h.calm h.ndX (by rw [h.hN]; exact i1) (by rw [h.hN]; exact i2) (by rw [h.hN]; exact i3) (nbeq_ne s1) (nbeq_ne s2) (nbeq_ne s3) (kof h.toXOk s4) (kof h.toXOk s5) (kof h.toXOk s6) ha
            (swapped_3 h.toXOk s4 s5 s6 (Nat.eq_of_beq_eq_true s7) (Nat.eq_of_beq_eq_true s8) (at_ne h.nd i1 i2 (nbeq_ne s1)) (at_ne h.nd i1 i3 (nbeq_ne s2)) (at_ne h.nd i2 i3 (nbeq_ne s3)) rfl hns (Bool.eq_false_iff.2 hf) (not_true_f s9))
    · rw [Bool.and_eq_true] at q3
      have e := Nat.eq_of_beq_eq_true q3.2
      exact long q3.1 (swapped_long (by rw [← e]; simp))
    · cases q3

mutual
theorem okS : ∀ (s : S) {X : Cx} {st : Stmt}, XOkS X rp P k N nms sp → chkS N P nms sp s st = true → SS X rp (run rp (fds P) k) W0 st s
  | .asg tg A fz, X, st, h, q => by
    unfold chkS at q
    cases st <;> first | (cases q; done) | skip
    rename_i ts e pos
    match ts, q with
    | [.Name x p], q =>
      dsimp only at q
      simp only [Bool.and_eq_true] at q
      obtain ⟨q1, q2, q3⟩ := q
      cases tg with
      | tp is => cases q1
      | nm i =>
        have q1 : stoB N nms allTrueN i x = true := q1
        cases hs : swB nms x p e with
        | true =>
          rw [hs] at q3
          exact ok_asgLc h q1 q2 hs q3
        | false =>
          obtain ⟨g1, g2, g3⟩ := stoB_ok h.toXOk (fun x _ => h.fn x) q1
          exact ss_asg h.ndX g1 g2 g3 (okE A h.toXOk q2).se (by rw [sw_eq h.toXOk, hs])
    | [.Tuple ts a b], q =>
      dsimp only at q
      simp only [Bool.and_eq_true] at q
      obtain ⟨q1, q2, q3⟩ := q
      exact ss_asgG (tgB_ok h.toXOk (fun x _ => h.fn x) q1) (okE A h.toXOk q2).se sw_sole_tup (ss_none_tup q3) rfl
  | .par is As fz, X, st, h, q => ok_par h q
  | .mov i j, X, st, h, q => by
    unfold chkS at q
    cases st <;> first | (cases q; done) | skip
    rename_i ts e pos
    match ts, e, q with
    | [.Name x p], .Name y p2, q =>
      dsimp only at q
      rw [Bool.and_eq_true] at q
      obtain ⟨g1, g2, g3⟩ := stoB_ok h.toXOk (fun x _ => h.fn x) q.1
      have q2 := q.2
      unfold varB at q2
      rw [Bool.and_eq_true] at q2
      obtain ⟨d1, d2⟩ := h.dbgAt q2.1
      exact ss_mov h.ndX g1 g2 g3 (h.at q2.1) (h.vis q2.2) d1 d2
  | .sto i C A fz, X, st, h, q => by
    unfold chkS at q
    cases st <;> first | (cases q; done) | skip
    rename_i ts e pos
    match ts, q with
    | [.Subscript (.Name x p) c p2], q =>
      dsimp only at q
      simp only [Bool.and_eq_true] at q
      obtain ⟨q1, q2, q3, q4⟩ := q
      unfold varB at q1
      rw [Bool.and_eq_true] at q1
      obtain ⟨d1, d2⟩ := h.dbgAt q1.1
      exact ss_sto q2 (h.at q1.1) (h.vis q1.2) d1 d2 (okE A h.toXOk q4).se (okE C h.toXOk q3).se sw_sole_sub ss_none_sub
  | .stod i C A fz, X, st, h, q => by
    unfold chkS at q
    cases st <;> first | (cases q; done) | skip
    rename_i ts e pos
    match ts, q with
    | [.Subscript (.Name x p) c p2], q =>
      dsimp only at q
      simp only [Bool.and_eq_true] at q
      obtain ⟨q1, q2, q3, q4⟩ := q
      unfold varB at q1
      rw [Bool.and_eq_true] at q1
      obtain ⟨d1, d2⟩ := h.dbgAt q1.1
      exact ss_stod (by have := h.toXOk.un; omega) q2 (h.at q1.1) (h.vis q1.2) d1 d2 (okE A h.toXOk q4).se (okE C h.toXOk q3).se sw_sole_sub ss_none_sub
  | .app i A fz, X, st, h, q => by
    unfold chkS at q
    cases st <;> first | (cases q; done) | skip
    rename_i e pos
    match e, q with
    | .Call (.Attribute (.Name x p) m apos) [e] [] cpos, q =>
      dsimp only at q
      simp only [Bool.and_eq_true] at q
      obtain ⟨⟨q1, q2⟩, q3, q4, q5⟩ := q
      have := seq_eq q1
      subst this
      unfold varB at q3
      rw [Bool.and_eq_true] at q3
      obtain ⟨d1, d2⟩ := h.dbgAt q3.1
      exact ss_app (h.at q3.1) (h.vis q3.2) d1 d2 (okE A h.toXOk q5).se (star_cons q4) (few_ok q4) (by rw [natbeq]; exact q2)
  | .ext i A fz, X, st, h, q => by
    unfold chkS at q
    cases st <;> first | (cases q; done) | skip
    rename_i e pos
    match e, q with
    | .Call (.Attribute (.Name x p) m apos) [e] [] cpos, q =>
      dsimp only at q
      simp only [Bool.and_eq_true] at q
      obtain ⟨⟨q1, q2⟩, q3, q4, q5⟩ := q
      have := seq_eq q1
      subst this
      unfold varB at q3
      rw [Bool.and_eq_true] at q3
      obtain ⟨d1, d2⟩ := h.dbgAt q3.1
      exact ss_ext (h.at q3.1) (h.vis q3.2) d1 d2 (okE A h.toXOk q5).se (star_cons q4) (few_ok q4) (by rw [natbeq]; exact q2)
  | .exp A, X, st, h, q => by
    unfold chkS at q
    cases st <;> first | (cases q; done) | skip
    simp only [Bool.and_eq_true] at q
    exact ss_exp (okE A h.toXOk q.2).se (sw_none q.1)
  | .ret A, X, st, h, q => by
    unfold chkS at q
    cases st <;> first | (cases q; done) | skip
    rename_i e pos
    cases e <;> first | (cases q; done) | skip
    exact ss_ret (okE A h.toXOk q).se
  | .retv i, X, st, h, q => by
    unfold chkS at q
    cases st <;> first | (cases q; done) | skip
    rename_i e pos
    match e, q with
    | some (.Name x p), q =>
      have q : varB N nms i x = true := q
      unfold varB at q
      rw [Bool.and_eq_true] at q
      obtain ⟨d1, d2⟩ := h.dbgAt q.1
      exact ss_retv (h.at q.1) (h.vis q.2) d1 d2
  | .retn, X, st, h, q => by
    unfold chkS at q
    cases st <;> first | (cases q; done) | skip
    rename_i e pos
    cases e <;> first | (cases q; done) | skip
    exact ss_retn
  | .iff C a b, X, st, h, q => by
    unfold chkS at q
    cases st <;> first | (cases q; done) | skip
    simp only [Bool.and_eq_true] at q
    obtain ⟨⟨q1, q2⟩, q3, q4⟩ := q
    exact ss_iff ((okE C h.toXOk q2).c q1) (okSs a h q3) (okSs b h q4)
  | .for tg it b fz, X, st, h, q => by
    unfold chkS at q
    cases st <;> first | (cases q; done) | skip
    rename_i t i body els pos
    match els, q with
    | [], q =>
      simp only [Bool.and_eq_true] at q
      obtain ⟨⟨q1, q2⟩, q3, q4⟩ := q
      exact ss_for h.hp h.calm (okI it h.toXOk q2) (tgB_ok h.toXOk (fun x _ => h.fn x) q3) (okSs b h q4) (fun x => fold_pure q1 x)
  | .fori tg C A B b fz, X, st, h, q => by
    unfold chkS at q
    cases st <;> first | (cases q; done) | skip
    rename_i t i body els pos
    match i, els, q with
    | .IfExp c x y ip, [], q =>
      simp only [Bool.and_eq_true] at q
      obtain ⟨⟨⟨q1, q2⟩, q3, q4⟩, q5, q6⟩ := q
      exact ss_fori h.hp h.calm ((okE C h.toXOk q2).c q1) (okE A h.toXOk q3).se (okE B h.toXOk q4).se (tgB_ok h.toXOk (fun x _ => h.fn x) q5) (okSs b h q6)
  | .forr tg it b, X, st, h, q => by
    unfold chkS at q
    cases st <;> first | (cases q; done) | skip
    rename_i t i body els pos
    match els, q with
    | [], q =>
      simp only [Bool.and_eq_true] at q
      obtain ⟨⟨q1, q0, q2⟩, q3, q4⟩ := q
      exact ss_forr h.hp h.calm (okIr h.toXOk q0 q2) (tgB_ok h.toXOk (fun x _ => h.fn x) q3) (okSs b h q4) (fun x => fold_pure q1 x)
  | .whl n C b, X, st, h, q => by
    unfold chkS at q
    cases st <;> first | (cases q; done) | skip
    rename_i c body els pos
    match els, q with
    | [], q =>
      simp only [Bool.and_eq_true] at q
      obtain ⟨⟨q1, q2⟩, q3⟩ := q
      exact ss_whl h.hp ((okE C h.toXOk q2).c q1) (okSs b h q3)
  | .pass, X, st, h, q => by
    unfold chkS at q
    cases st <;> first | (cases q; done) | skip
    exact ss_pass
  | .brk, X, st, h, q => by
    unfold chkS at q
    cases st <;> first | (cases q; done) | skip
    exact ss_brk
  | .spoilx mv A, X, st, h, q => ok_spoilx h q
  | .apop i j A fz, X, st, h, q => ok_apop h q
  | .popv tg j, X, st, h, q => ok_popv h q
  | .bad, X, st, h, q => ss_bad
  | .rse _ _, X, st, h, q => by unfold chkS at q; cases q
  | .spoil i, X, st, h, q => by
    unfold chkS at q
    cases st <;> first | (cases q; done) | skip
    rename_i e pos
    match e, q with
    | .Call (.Name nm p) [.Name x p2] [] cpos, q =>
      dsimp only at q
      simp only [Bool.and_eq_true] at q
      obtain ⟨⟨q1, q2, q3⟩, q4⟩ := q
      have := seq_eq q2
      subst this
      obtain ⟨hk, adr, fd, f1, f2, f3, f4⟩ := h.spo q1
      unfold varB at q4
      rw [Bool.and_eq_true] at q4
      obtain ⟨d1, d2⟩ := h.dbgAt q4.1
      exact ss_spoil (h.room.mono hk) h.gd f1 (h.gl q3) f2 f3 f4 (h.at q4.1) (h.vis q4.2) d1 d2
theorem okSs : ∀ (s : Ss) {X : Cx} {st : List Stmt}, XOkS X rp P k N nms sp → chkSs N P nms sp s st = true → SSs X rp (run rp (fds P) k) W0 st s
  | .nil, X, st, h, q => by
    unfold chkSs at q
    cases st <;> first | (cases q; done) | skip
    exact ss_nil
  | .cons s ss, X, st, h, q => by
    unfold chkSs at q
    cases st <;> first | (cases q; done) | skip
    simp only [Bool.and_eq_true] at q
    exact ss_cons (okS s h q.1) (okSs ss h q.2)
  | .kill is ss, X, st, h, q => by
    unfold chkSs at q
    exact ss_kill (okSs ss h q)
end
end
end TM

set_option Elab.async false
set_option linter.all false
set_option maxRecDepth 100000
set_option maxHeartbeats 8000000
namespace TM
open PySem PySem.Spec L2

/-! ### the draw: its body, at any positions -/
def drawN : List Str := ["stream", "many", "cell", "digit", "mixed"]
def tItem (K : PySem.W.Frag) (c : Int) : TE := tOp (rIxL K) (tVar 0) (L2.tC (.int c))
abbrev rMul : R2 := rI CMul fun i j => .int (i * j)
abbrev rAdd : R2 := rI0 fun i j => .int (i + j)
abbrev rFd : R2 := rI CDiv fun i j => .int (i / j)
abbrev rMo : R2 := rI (fun _ j => 0 < j) fun i j => .int (i % j)
abbrev rPw : R2 := rI CPow fun i j => .int (i ^ j.toNat)
abbrev rGt : R2 := rI0 fun i j => .bl (decide (j < i))
abbrev rGe : R2 := rI0 fun i j => .bl (decide (j ≤ i))
abbrev rInt : List V → Hp → VK → Prop := fun xs H Q => (∃ i, xs = [.int i] ∧ Q (.int i) H) ∨ ∃ k, xs = [.bl k] ∧ Q (.int (if k then 1 else 0)) H
abbrev rAbs : List V → Hp → VK → Prop := fun xs H Q => ∃ i, xs = [.int i] ∧ Q (.int (if i < 0 then -i else i)) H
def tInt (t : TE) : TE := tCB rInt (tCons t tNil)
def c_ (i : Int) : TE := L2.tC (.int i)
def t1 (K : PySem.W.Frag) : TS := tAsg (tOp rAdd (tItem K 2) (c_ 1)) (gSub (tVar 0) (c_ 2) rSetL)
def tW (K : PySem.W.Frag) : TT := tAnd (tTest (tOp rEq (tItem K 1) (c_ 0))) (tTest (tOp (rNeD K) (tItem K 0) (tLst tNil)))
def tB1 (K : PySem.W.Frag) : TS := tAsg (tCB rAbs (tCons (tBM K "list" rPopAt (tItem K 0) (tCons (c_ 0) tNil)) tNil)) (gName 2)
def tB2 (K : PySem.W.Frag) : TS := tAsg (tOp rMo (tInt (tOp rAdd (tOp rAdd (tOp rMul (tItem K 3) (c_ 6151)) (tVar 2)) (c_ 7))) (c_ 2147483629)) (gSub (tVar 0) (c_ 3) rSetL)
def tB3 (K : PySem.W.Frag) : TS := tAsg (tIf (tTest (tOp rGe (tVar 2) (tOp rPw (c_ 10) (c_ 18)))) (tVar 2) (c_ 0)) (gSub (tVar 0) (c_ 1) rSetL)
def t2 (K : PySem.W.Frag) : TS := tWhile (tW K) (tSeq (tB1 K) (tSeq (tB2 K) (tSeq (tB3 K) tNext)))
def t3 (K : PySem.W.Frag) : TS := tIfS (tTest (tOp rGt (tItem K 1) (c_ 0))) (tSeq (tAsg (tOp rMo (tInt (tItem K 1)) (tVar 1)) (gName 3)) (tSeq (tAsg (tOp rFd (tItem K 1) (tVar 1)) (gSub (tVar 0) (c_ 1) rSetL)) (tSeq (tRet (tVar 3)) tNext))) tNext
def t4 (K : PySem.W.Frag) : TS := tAsg (tOp rMo (tInt (tOp rPw (tOp rAdd (tOp rAdd (tItem K 3) (tOp rMul (c_ 8191) (tItem K 2))) (c_ 50021)) (c_ 5))) (c_ 2147483587)) (gName 4)
def t5 (K : PySem.W.Frag) : TS := tRet (tOp rMo (tOp rMo (tInt (tOp rPw (tOp rAdd (tOp rAdd (tOp rMul (tVar 4) (c_ 40009)) (tOp rMul (c_ 20011) (tItem K 2))) (c_ 31)) (c_ 3))) (c_ 1000000009)) (tVar 1))
def tDraw (K : PySem.W.Frag) : TS := tSeq (t1 K) (tSeq (t2 K) (tSeq (t3 K) (tSeq (t4 K) (tSeq (t5 K) tNext))))

section
variable {X : Cx} {rp : T → Str} {P : List Ent} {k : Nat} {nms : Nms} {sp : Bool}
theorem d_var (h : XOkS X rp P k drawN nms sp) {i : Nat} {x : Str} {p : Pos} (q : varB drawN nms i x = true) : PE X (.Name x p) (tVar i) := by
  unfold varB at q
  rw [Bool.and_eq_true] at q
  obtain ⟨d1, d2⟩ := h.dbgAt q.1
  exact pe_var (h.at q.1) (h.vis q.2) d1 d2
theorem d_item (h : XOkS X rp P k drawN nms sp) (q : varB drawN nms 0 "stream" = true) {c : Int} {j : Nat} {p p2 p3 : Pos} : PE X (.Subscript (.Name "stream" p) (.Constant (.int c) j p2) p3) (tItem X.K c) :=
  pe_ix ix_list (d_var h q) pe_int fun _ _ => rfl
theorem d_int (h : XOkS X rp P k drawN nms sp) (hg : glB nms "int" = true) {e : Expr} {t : TE} (ha : PE X e t) (hs : noStar e = true) {p pos : Pos} : PE X (.Call (.Name "int" p) [e] [] pos) (tInt t) :=
  pe_callTy call_int1 (h.gl hg) (h.mg _ (by decide +kernel)) (by decide +kernel) (pa_cons ha pa_nil (star_cons hs)) (by decide) (by decide) (star_cons hs) rfl
theorem d_abs (h : XOkS X rp P k drawN nms sp) (hg : glB nms "abs" = true) {e : Expr} {t : TE} (ha : PE X e t) (hs : noStar e = true) {p pos : Pos} : PE X (.Call (.Name "abs" p) [e] [] pos) (tCB rAbs (tCons t tNil)) :=
  pe_callB call_abs (h.gl hg) (h.mg _ (by decide +kernel)) (by decide +kernel) (pa_cons ha pa_nil (star_cons hs)) (by decide) (by decide) (star_cons hs) rfl
theorem d_sto (h : XOkS X rp P k drawN nms sp) (q : varB drawN nms 0 "stream" = true) {c : Int} {j : Nat} {p p2 p3 pos : Pos} {e : Expr} {t : TE} (he : PE X e t) : PS X (.Assign [.Subscript (.Name "stream" p) (.Constant (.int c) j p2) p3] e pos) (tAsg t (gSub (tVar 0) (c_ c) rSetL)) :=
  ps_asg he (pg_sub (d_var h q) pe_int set_list) sw_sole_sub ss_none_sub rfl
theorem d_set (h : XOkS X rp P k drawN nms sp) {i : Nat} {x : Str} {p pos : Pos} {e : Expr} {t : TE} (q : stoB drawN nms allTrueN i x = true) (he : PE X e t) (hn : notComp e = true) : PS X (.Assign [.Name x p] e pos) (tAsg t (gName i)) := by
  obtain ⟨g1, g2, g3⟩ := stoB_ok h.toXOk (fun x _ => h.fn x) q
  exact ps_set h.ndX g1 g2 he (by cases e <;> first | rfl | cases hn) g3
theorem draw_pss {p1 p2 p3 p4 p5 p6 p7 p8 p9 p10 p11 p12 p13 p14 p15 p16 p17 p18 p19 p20 p21 p22 p23 p24 p25 p26 p27 p28 p29 p30 p31 p32 p33 p34 p35 p36 p37 p38 p39 p40 p41 p42 p43 p44 p45 p46 p47 p48 p49 p50 p51 p52 p53 p54 p55 p56 p57 p58 p59 p60 p61 p62 p63 p64 p65 p66 p67 p68 p69 p70 p71 p72 p73 p74 p75 p76 p77 p78 p79 p80 p81 p82 p83 p84 p85 p86 p87 p88 p89 p90 p91 p92 p93 p94 p95 p96 p97 p98 p99 p100 p101 p102 p103 p104 p105 p106 p107 p108 p109 p110 p111 p112 p113 p114 p115 p116 p117 p118 p119 p120 p121 p122 p123 p124 p125 : Pos} (h : XOkS X rp P k drawN nms sp) (a0 : varB drawN nms 0 "stream" = true) (a1 : varB drawN nms 1 "many" = true) (a2 : varB drawN nms 2 "cell" = true) (a3 : varB drawN nms 3 "digit" = true) (a4 : varB drawN nms 4 "mixed" = true)
    (b2 : stoB drawN nms allTrueN 2 "cell" = true) (b3 : stoB drawN nms allTrueN 3 "digit" = true) (b4 : stoB drawN nms allTrueN 4 "mixed" = true) (gi : glB nms "int" = true) (ga : glB nms "abs" = true) (hl : (p26.endLine == p28.line) = true) :
    PSs X [ (Stmt.Assign (targets := [ (Expr.Subscript (value := (Expr.Name "stream" p1)) (slice := (Expr.Constant (Const.int 2) 0 p2)) (pos := p3))]) (value := (Expr.BinOp (left := (Expr.Subscript (value := (Expr.Name "stream" p4)) (slice := (Expr.Constant (Const.int 2) 0 p5)) (pos := p6))) (op := Operator.Add) (right := (Expr.Constant (Const.int 1) 0 p7)) (pos := p8))) (pos := p9)), (Stmt.While (test := (Expr.BoolOp (op := BoolOp.And) (values := [ (Expr.Compare (left := (Expr.Subscript (value := (Expr.Name "stream" p10)) (slice := (Expr.Constant (Const.int 1) 0 p11)) (pos := p12))) (ops := [CmpOp.Eq]) (comparators := [(Expr.Constant (Const.int 0) 0 p13)]) (pos := p14)), (Expr.Compare (left := (Expr.Subscript (value := (Expr.Name "stream" p15)) (slice := (Expr.Constant (Const.int 0) 0 p16)) (pos := p17))) (ops := [CmpOp.NotEq]) (comparators := [(Expr.List [] p18)]) (pos := p19))]) (pos := p20))) (body := [ (Stmt.Assign (targets := [(Expr.Name "cell" p21)]) (value := (Expr.Call (func := (Expr.Name "abs" p22)) (args := [ (Expr.Call (func := (Expr.Attribute (value := (Expr.Subscript (value := (Expr.Name "stream" p23)) (slice := (Expr.Constant (Const.int 0) 0 p24)) (pos := p25))) (attr := "pop") (pos := p26))) (args := [(Expr.Constant (Const.int 0) 0 p27)]) (keywords := []) (pos := p28))]) (keywords := []) (pos := p29))) (pos := p30)), (Stmt.Assign (targets := [ (Expr.Subscript (value := (Expr.Name "stream" p31)) (slice := (Expr.Constant (Const.int 3) 0 p32)) (pos := p33))]) (value := (Expr.BinOp (left := (Expr.Call (func := (Expr.Name "int" p34)) (args := [ (Expr.BinOp (left := (Expr.BinOp (left := (Expr.BinOp (left := (Expr.Subscript (value := (Expr.Name "stream" p35)) (slice := (Expr.Constant (Const.int 3) 0 p36)) (pos := p37))) (op := Operator.Mult) (right := (Expr.Constant (Const.int 6151) 0 p38)) (pos := p39))) (op := Operator.Add) (right := (Expr.Name "cell" p40)) (pos := p41))) (op := Operator.Add) (right := (Expr.Constant (Const.int 7) 0 p42)) (pos := p43))]) (keywords := []) (pos := p44))) (op := Operator.Mod) (right := (Expr.Constant (Const.int 2147483629) 0 p45)) (pos := p46))) (pos := p47)), (Stmt.Assign (targets := [ (Expr.Subscript (value := (Expr.Name "stream" p48)) (slice := (Expr.Constant (Const.int 1) 0 p49)) (pos := p50))]) (value := (Expr.IfExp (test := (Expr.Compare (left := (Expr.Name "cell" p51)) (ops := [CmpOp.GtE]) (comparators := [ (Expr.BinOp (left := (Expr.Constant (Const.int 10) 0 p52)) (op := Operator.Pow) (right := (Expr.Constant (Const.int 18) 0 p53)) (pos := p54))]) (pos := p55))) (body := (Expr.Name "cell" p56)) (orelse := (Expr.Constant (Const.int 0) 0 p57)) (pos := p58))) (pos := p59))]) (orelse := []) (pos := p60)), (Stmt.If (test := (Expr.Compare (left := (Expr.Subscript (value := (Expr.Name "stream" p61)) (slice := (Expr.Constant (Const.int 1) 0 p62)) (pos := p63))) (ops := [CmpOp.Gt]) (comparators := [(Expr.Constant (Const.int 0) 0 p64)]) (pos := p65))) (body := [ (Stmt.Assign (targets := [(Expr.Name "digit" p66)]) (value := (Expr.BinOp (left := (Expr.Call (func := (Expr.Name "int" p67)) (args := [ (Expr.Subscript (value := (Expr.Name "stream" p68)) (slice := (Expr.Constant (Const.int 1) 0 p69)) (pos := p70))]) (keywords := []) (pos := p71))) (op := Operator.Mod) (right := (Expr.Name "many" p72)) (pos := p73))) (pos := p74)), (Stmt.Assign (targets := [ (Expr.Subscript (value := (Expr.Name "stream" p75)) (slice := (Expr.Constant (Const.int 1) 0 p76)) (pos := p77))]) (value := (Expr.BinOp (left := (Expr.Subscript (value := (Expr.Name "stream" p78)) (slice := (Expr.Constant (Const.int 1) 0 p79)) (pos := p80))) (op := Operator.FloorDiv) (right := (Expr.Name "many" p81)) (pos := p82))) (pos := p83)), (Stmt.Return (some (Expr.Name "digit" p84)) p85)]) (orelse := []) (pos := p86)), (Stmt.Assign (targets := [(Expr.Name "mixed" p87)]) (value := (Expr.BinOp (left := (Expr.Call (func := (Expr.Name "int" p88)) (args := [ (Expr.BinOp (left := (Expr.BinOp (left := (Expr.BinOp (left := (Expr.Subscript (value := (Expr.Name "stream" p89)) (slice := (Expr.Constant (Const.int 3) 0 p90)) (pos := p91))) (op := Operator.Add) (right := (Expr.BinOp (left := (Expr.Constant (Const.int 8191) 0 p92)) (op := Operator.Mult) (right := (Expr.Subscript (value := (Expr.Name "stream" p93)) (slice := (Expr.Constant (Const.int 2) 0 p94)) (pos := p95))) (pos := p96))) (pos := p97))) (op := Operator.Add) (right := (Expr.Constant (Const.int 50021) 0 p98)) (pos := p99))) (op := Operator.Pow) (right := (Expr.Constant (Const.int 5) 0 p100)) (pos := p101))]) (keywords := []) (pos := p102))) (op := Operator.Mod) (right := (Expr.Constant (Const.int 2147483587) 0 p103)) (pos := p104))) (pos := p105)), (Stmt.Return (value := (some (Expr.BinOp (left := (Expr.BinOp (left := (Expr.Call (func := (Expr.Name "int" p106)) (args := [ (Expr.BinOp (left := (Expr.BinOp (left := (Expr.BinOp (left := (Expr.BinOp (left := (Expr.Name "mixed" p107)) (op := Operator.Mult) (right := (Expr.Constant (Const.int 40009) 0 p108)) (pos := p109))) (op := Operator.Add) (right := (Expr.BinOp (left := (Expr.Constant (Const.int 20011) 0 p110)) (op := Operator.Mult) (right := (Expr.Subscript (value := (Expr.Name "stream" p111)) (slice := (Expr.Constant (Const.int 2) 0 p112)) (pos := p113))) (pos := p114))) (pos := p115))) (op := Operator.Add) (right := (Expr.Constant (Const.int 31) 0 p116)) (pos := p117))) (op := Operator.Pow) (right := (Expr.Constant (Const.int 3) 0 p118)) (pos := p119))]) (keywords := []) (pos := p120))) (op := Operator.Mod) (right := (Expr.Constant (Const.int 1000000009) 0 p121)) (pos := p122))) (op := Operator.Mod) (right := (Expr.Name "many" p123)) (pos := p124)))) (pos := p125))] (tDraw X.K) := by
  have un := h.un
  refine pss_cons (d_sto h a0 (pe_op op_add (d_item h a0) pe_int)) (pss_cons (ps_while h.hp ?_ (pss_cons ?_ (pss_cons ?_ (pss_cons ?_ pss_nil)))) (pss_cons (ps_if ?_ (pss_cons ?_ (pss_cons ?_ (pss_cons ?_ pss_nil))) pss_nil) (pss_cons ?_ (pss_cons ?_ pss_nil))))
  · exact (pw_and (pt_cmpR op_eq (d_item h a0) pe_int rfl) (pw_and1 (pt_cmpR (op_neD (by omega)) (d_item h a0) (pe_lst pa_nil) rfl))).pt
  · exact d_set h b2 (d_abs h ga (pe_bm PySem.F.plainAttrs_list PySem.F.slot_list_pop PySem.F.type_list_pop mt_popAt (d_item h a0) (pa_cons pe_int pa_nil) rfl rfl hl) rfl) rfl
  · exact d_sto h a0 (pe_op op_mod (d_int h gi (pe_op op_add (pe_op op_add (pe_op op_mul (d_item h a0) pe_int) (d_var h a2)) pe_int) rfl) pe_int)
  · exact d_sto h a0 (pe_ifExp (pt_cmpR op_ge (d_var h a2) (pe_op op_pow pe_int pe_int) rfl) (d_var h a2) pe_int)
  · exact pt_cmpR op_gt (d_item h a0) pe_int rfl
  · exact d_set h b3 (pe_op op_mod (d_int h gi (d_item h a0) rfl) (d_var h a1)) rfl
  · exact d_sto h a0 (pe_op op_fdiv (d_item h a0) (d_var h a1))
  · exact ps_ret (d_var h a3)
  · exact d_set h b4 (pe_op op_mod (d_int h gi (pe_op op_pow (pe_op op_add (pe_op op_add (d_item h a0) (pe_op op_mul pe_int (d_item h a0))) pe_int) pe_int) rfl) pe_int) rfl
  · exact ps_ret (pe_op op_mod (pe_op op_mod (d_int h gi (pe_op op_pow (pe_op op_add (pe_op op_add (pe_op op_mul (d_var h a4) pe_int) (pe_op op_mul pe_int (d_item h a0))) pe_int) pe_int) rfl) pe_int) (d_var h a1))
end
end TM

set_option Elab.async false
set_option linter.all false
set_option maxRecDepth 100000
set_option maxHeartbeats 8000000
namespace TM
open PySem PySem.Spec L2
section
variable {X : Cx} {K : PySem.W.Frag} {σ : St} {H H' : Hp} {Q : VK} {s l : Addr} {b : Nat} {n : Int}

theorem it_read {xs : List V} {c : Int} {v : V} (hs : σ[0]? = some (some (.ref s))) (hH : H s = some (.lst xs)) (hx : atI xs c = some v) (q : Q v H) : tItem K c σ H Q := ⟨_, hs, _, xs, c, v, rfl, rfl, SqL.of hH, hx, q⟩
theorem sto_read {xs : List V} {c : Int} {j : Nat} {v : V} {R : St → Hp → Prop} (hs : σ[0]? = some (some (.ref s))) (hH : H s = some (.lst xs)) (hx : ixN xs.length c = some j) (q : R σ (upd H s (.lst (xs.set j v)))) : gSub (tVar 0) (c_ c) rSetL v σ H R :=
  ⟨_, hs, _, xs, c, j, rfl, rfl, hH, hx, q⟩

structure DS (s l : Addr) (H0 H : Hp) (ns : List Int) (x y z : Int) : Prop where
  hs : H s = some (.lst [.ref l, .int x, .int y, .int z])
  hl : H l = some (.lst (ns.map V.int))
  ex : Ext (some (s, l)) H0 H
  len : ns.length ≤ 1000
  x0 : 0 ≤ x
  z0 : 0 ≤ z
  z1 : z < 2147483629
theorem DS.setS {H0 : Hp} {ns : List Int} {x y z x' y' z' : Int} (sl : s ≠ l) (d : DS s l H0 H ns x y z) (hx : 0 ≤ x') (hz : 0 ≤ z') (hz1 : z' < 2147483629) : DS s l H0 (upd H s (.lst [.ref l, .int x', .int y', .int z'])) ns x' y' z' :=
  ⟨upd_same, by rw [upd_ne sl.symm]; exact d.hl, fun a o e nv => by
    have : a ≠ s := fun z => nv (.inl z)
    rw [upd_ne this]; exact d.ex a o e nv, d.len, hx, hz, hz1⟩
theorem DS.setL {H0 : Hp} {ns ms : List Int} {x y z : Int} (sl : s ≠ l) (d : DS s l H0 H ns x y z) (hm : ms.length ≤ 1000) : DS s l H0 (upd H l (.lst (ms.map V.int))) ms x y z :=
  ⟨by rw [upd_ne sl]; exact d.hs, upd_same, fun a o e nv => by
    have : a ≠ l := fun z => nv (.inr z)
    rw [upd_ne this]; exact d.ex a o e nv, hm, d.x0, d.z0, d.z1⟩
theorem DS.new {H0 : Hp} {ns : List Int} {x y z : Int} (d : DS s l H0 H ns x y z) {p : Addr} {o : HO} (hp : H p = none) : DS s l H0 (upd H p o) ns x y z := by
  have hps : s ≠ p := by rintro rfl; rw [d.hs] at hp; cases hp
  have hpl : l ≠ p := by rintro rfl; rw [d.hl] at hp; cases hp
  refine ⟨by rw [upd_ne hps]; exact d.hs, by rw [upd_ne hpl]; exact d.hl, fun a o e nv => ?_, d.len, d.x0, d.z0, d.z1⟩
  have e := d.ex a o e nv
  have : a ≠ p := by rintro rfl; rw [e] at hp; cases hp
  rw [upd_ne this]; exact e
theorem reps_ints {F : Fz} : ∀ (ns : List Int), Reps none F H (ns.map V.int) (ns.map T.int)
  | [] => .nil
  | n :: ns => .cons (.int n) (reps_ints ns)
theorem isdats_ints : ∀ (ns : List Int), isdats (ns.map T.int) = true
  | [] => rfl
  | n :: ns => by show (true && isdats (ns.map T.int)) = true; rw [isdats_ints ns]; rfl
theorem depths_ints : ∀ (ns : List Int), depths (ns.map T.int) = 0
  | [] => rfl
  | n :: ns => by show max 0 (depths (ns.map T.int)) = 0; rw [depths_ints ns]; rfl
theorem eqok_ints (ns : List Int) : (T.lst (ns.map T.int)).eqok = true := by
  unfold T.eqok T.isdat T.depth
  rw [isdats_ints, depths_ints]; rfl
theorem ne_nil_read {ns : List Int} {a p : Addr} (ha : H a = some (.lst (ns.map V.int))) (hp : H p = some (.lst [])) (q : Q (.bl (!ns.isEmpty)) H) : rNeD X.K (.ref a) (.ref p) H Q := by
  refine cmp_ne (X := X) (β := Bool) none (fun _ => True) H 0 (.lst (ns.map T.int)) (.lst []) _ _ Q (fun c _ => c = !ns.isEmpty) (fun _ _ _ => False) (fun c => .ok c) (.lst trivial ha (reps_ints ns)) (.lst trivial hp .nil) ?_ (fun c hc => ?_)
  · show Sat _ _ ((eqT (.lst (ns.map T.int)) (.lst []) >>= fun r => R.ok !r) >>= fun c => R.ok c) 0
    unfold eqT
    rw [eqok_ints, show (T.lst []).eqok = true from rfl]
    cases ns <;> rfl
  · have hc : c = !ns.isEmpty := hc
    rw [hc]; exact q

theorem pow_nn {a : Int} (h : 0 ≤ a) (k : Nat) : 0 ≤ a ^ k := Int.pow_nonneg h
/-- THE DRAW: any number below n comes out -/
theorem draw_read {D : Ends} {H0 : Hp} (sl : s ≠ l) (n0 : 0 < n) (n1 : n < 1073741824) (s0 : SInv (some (s, l)) (b + 1) H0)
    (hQ : ∀ i H', 0 ≤ i → i < n → Ext (some (s, l)) H0 H' → SInv (some (s, l)) b H' → D.rt (.int i) H') : tDraw X.K D [some (.ref s), some (.int n), none, none, none] H0 := by
  obtain ⟨_, ns, x, y, z, h1, h2, h3, h4, h5, h6, h7, h8⟩ := s0
  have d0 : DS s l H0 H0 ns x y z := ⟨h1, h2, Ext.refl, h3, h4, h7, h8⟩
  have fin : ∀ {H' : Hp} {ns' : List Int} {x' z' i : Int}, DS s l H0 H' ns' x' (y + 1) z' → 0 ≤ i → i < n → D.rt (.int i) H' := fun d i0 i1 =>
    hQ _ _ i0 i1 d.ex ⟨sl, _, _, _, _, d.hs, d.hl, d.len, d.x0, by omega, by omega, d.z0, d.z1⟩
  -- stream[2] = stream[2] + 1
  refine it_read rfl d0.hs rfl ⟨y, 1, rfl, rfl, sto_read rfl d0.hs rfl ?_⟩
  have d1 := d0.setS (y' := y + 1) sl d0.x0 d0.z0 d0.z1
  -- the while
  refine ⟨fun m σ' H' => ∃ ns x z c d e, m = ns.length ∧ σ' = [some (.ref s), some (.int n), c, d, e] ∧ DS s l H0 H' ns x (y + 1) z, ⟨_, _, _, _, _, _, _, rfl, rfl, d1⟩, ?_⟩
  clear h1 h2 h3 h4 h7 h8 d0 d1
  rintro m σ' H' ⟨ns, x, z, c, d, e, rfl, rfl, dd⟩
  refine it_read rfl dd.hs rfl ⟨rfl, _, rfl, ?_⟩
  by_cases hx : x = 0
  · subst hx
    refine (if_pos (c := decide (V.int 0 = V.int 0) = true) (by decide)).mpr ?_
    refine it_read rfl dd.hs rfl ⟨Nat.zero_le _, fun p hp => ?_⟩
    have dp := dd.new (o := .lst []) hp
    refine ne_nil_read dp.hl upd_same ⟨_, rfl, ?_⟩
    cases ns with
    | nil =>
      dsimp only
      rw [if_neg (by decide)]
      -- stream[1] > 0: no
      refine it_read rfl dp.hs rfl ⟨0, 0, rfl, rfl, _, rfl, ?_⟩
      dsimp only
      rw [if_neg (by decide)]
      refine it_read rfl dp.hs rfl (it_read rfl dp.hs rfl ⟨8191, y + 1, rfl, rfl, .inl ⟨by omega, by omega⟩, ⟨z, 8191 * (y + 1), rfl, rfl, ⟨_, 50021, rfl, rfl, ⟨z + 8191 * (y + 1) + 50021, 5, rfl, rfl, ⟨by omega, by omega, ?_⟩, .inl ⟨_, rfl, _, 2147483587, rfl, rfl, by omega, ?_⟩⟩⟩⟩⟩)
      · have := dd.z0; have := dd.z1; omega
      have key : ∀ mixed : Int, 0 ≤ mixed → mixed < 2147483587 → tSeq (t5 X.K) tNext D [some (V.ref s), some (V.int n), c, d, some (V.int mixed)] (upd H' p (.lst [])) := fun mixed m0 m1 => by
        refine ⟨.int mixed, rfl, mixed, 40009, rfl, rfl, .inl ⟨by omega, by omega⟩, it_read rfl dp.hs rfl ⟨20011, y + 1, rfl, rfl, .inl ⟨by omega, by omega⟩, ⟨_, _, rfl, rfl, ⟨_, 31, rfl, rfl, ⟨mixed * 40009 + 20011 * (y + 1) + 31, 3, rfl, rfl, ⟨by omega, by omega, by omega⟩, .inl ⟨_, rfl, _, 1000000009, rfl, rfl, by omega, ⟨.int n, rfl, _, n, rfl, rfl, n0, ?_⟩⟩⟩⟩⟩⟩⟩
        exact fin dp (Int.emod_nonneg _ (by omega)) (Int.emod_lt_of_pos _ n0)
      exact key _ (Int.emod_nonneg _ (by omega)) (Int.emod_lt_of_pos _ (by omega))
    | cons c0 ns =>
      dsimp only
      rw [if_pos (by rfl)]
      refine ⟨fun σ2 H2 => ∃ x z c d e, σ2 = [some (.ref s), some (.int n), c, d, e] ∧ DS s l H0 H2 ns x (y + 1) z, fun σ2 H2 ⟨x, z, c, d, e, e1, e2⟩ => ⟨ns.length, Nat.lt_succ_self _, ns, x, z, c, d, e, rfl, e1, e2⟩, ?_⟩
      refine it_read rfl dp.hs rfl ⟨.inl ⟨rfl, _, SqL.of dp.hl⟩, l, _, 0, 0, .int c0, rfl, rfl, dp.hl, by omega, by omega, by simp [seqIndex?], rfl, ?_⟩
      have dl := dp.setL (ms := ns) sl (by have := dd.len; simp at this; omega)
      refine ⟨c0, rfl, ?_⟩
      generalize hce : (if c0 < 0 then -c0 else c0) = cell
      have ce0 : 0 ≤ cell := by rw [← hce]; split <;> omega
      have dl : DS s l H0 (upd (upd H' p (.lst [])) l (.lst (((c0 :: ns).map V.int).eraseIdx 0))) ns 0 (y + 1) z := dl
      refine it_read rfl dl.hs rfl ⟨z, 6151, rfl, rfl, .inr ⟨by omega, by omega⟩, ⟨.int cell, rfl, ⟨_, cell, rfl, rfl, ⟨_, 7, rfl, rfl, .inl ⟨_, rfl, _, 2147483629, rfl, rfl, by omega, sto_read rfl dl.hs rfl ?_⟩⟩⟩⟩⟩
      have d3 := dl.setS (x' := 0) (y' := y + 1) (z' := (z * 6151 + cell + 7) % 2147483629) sl (by omega) (Int.emod_nonneg _ (by omega)) (Int.emod_lt_of_pos _ (by omega))
      refine ⟨.int cell, rfl, 10, 18, rfl, rfl, ⟨by omega, by omega, by omega⟩, ⟨cell, _, rfl, rfl, _, rfl, ?_⟩⟩
      by_cases hb : (10 : Int) ^ (18 : Int).toNat ≤ cell
      · dsimp only
        rw [if_pos (decide_eq_true hb)]
        refine ⟨.int cell, rfl, sto_read rfl d3.hs rfl ?_⟩
        exact ⟨cell, _, _, d, e, rfl, d3.setS (y' := y + 1) sl ce0 d3.z0 d3.z1⟩
      · dsimp only
        rw [if_neg (by rw [decide_eq_true_eq]; exact hb)]
        refine sto_read rfl d3.hs rfl ?_
        exact ⟨0, _, _, d, e, rfl, d3.setS (y' := y + 1) sl (by omega) d3.z0 d3.z1⟩
  · have hx2 : ¬ (decide (V.int x = V.int 0) = true) := by
      rw [decide_eq_true_eq]
      intro q; cases q; exact hx rfl
    refine (if_neg hx2).mpr ?_
    dsimp only
    rw [if_neg (by decide)]
    have x0 := dd.x0
    refine it_read rfl dd.hs rfl ⟨x, 0, rfl, rfl, _, rfl, ?_⟩
    dsimp only
    rw [if_pos (decide_eq_true (by omega))]
    refine it_read rfl dd.hs rfl (.inl ⟨x, rfl, ⟨.int n, rfl, x, n, rfl, rfl, n0, ?_⟩⟩)
    refine it_read rfl dd.hs rfl ⟨.int n, rfl, x, n, rfl, rfl, ⟨n0, n1⟩, sto_read rfl dd.hs rfl ?_⟩
    have d3 := dd.setS (x' := x / n) (y' := y + 1) (z' := z) sl (Int.ediv_nonneg x0 (by omega)) dd.z0 dd.z1
    exact ⟨.int (x % n), rfl, fin d3 (Int.emod_nonneg _ (by omega)) (Int.emod_lt_of_pos _ n0)⟩
end
end TM

set_option Elab.async false
set_option linter.all false
set_option maxRecDepth 100000
set_option maxHeartbeats 8000000
namespace TM
open PySem PySem.Spec L2
open PyProof.Rows (envOfC)

def spoN : List Str := ["thing", "part", "key"]
def tDct (K : PySem.W.Frag) : TT := tB (tCB (rIsi K) (tCons (tVar 0) (tCons (L2.tC (.ty "dict")) tNil)))
def tLs (K : PySem.W.Frag) : TT := tB (tCB (rIsi K) (tCons (tVar 0) (tCons (L2.tC (.ty "list")) tNil)))
def tSeqs (K : PySem.W.Frag) : TT := tB (tCB (rIsiT K) (tCons (tVar 0) (tCons (tTup (tCons (L2.tC (.ty "list")) (tCons (L2.tC (.ty "tuple")) tNil))) tNil)))
def tBot : TS := fun _ _ _ => False
def iSq (K : PySem.W.Frag) : TI := fun σ H R => tVar 0 σ H fun v H1 => ∃ a, v = .ref a ∧ (((∃ xs, SqL K H1 a xs) ∧ R (Itl K a) H1) ∨ ((∃ xs, SqT K H1 a xs) ∧ R (Itt K a) H1))
def tLoop (K : PySem.W.Frag) (sp : Sp) : TS := tFor (iSq K) (gName 1) (tSeq (tDrop (tCall sp [] E0 (tCons (tVar 1) tNil))) tNext)
def tApp (K : PySem.W.Frag) : TS := tDrop (tBM K "list" rAppend (tVar 0) (tCons (L2.tC (.str "late")) tNil))
def tSpoil (K : PySem.W.Frag) (sp : Sp) : TS := tSeq (tIfS (tDct K) tBot tNext) (tSeq (tIfS (tSeqs K) (tSeq (tLoop K sp) tNext) tNext) (tSeq (tIfS (tLs K) (tSeq (tApp K) tNext) tNext) tNext))
section
variable {X : Cx} {K : PySem.W.Frag} {G : Gb} {F : Fz} {H H' : Hp} {σ : St} {v : V} {t : T}
theorem pss_bot {l : List Stmt} : PSs X l tBot := ⟨fun pins s σ H D I h => h.elim⟩
theorem isi_read {c n : String} {b : Bool} {Q : Bool → Hp → Prop} (hs : σ[0]? = some (some v)) (ht : TyX K H v (.type n)) (hk : PySem.W.kitOne K (.type n) (.type c) = some b) (q : Q b H) : tB (tCB (rIsi K) (tCons (tVar 0) (tCons (L2.tC (.ty c)) tNil))) σ H Q :=
  ⟨v, hs, ⟨v, _, _, _, b, rfl, .ty _, ht, hk, ⟨b, rfl, q⟩⟩⟩
theorem tyx_up {o : HO} {p : Addr} (hp : H p = none) (r : Rep G F H v t) (hk : ∀ n, t ≠ .tok n) : TyX K (upd H p o) v (.type (tyOfT t)) := by
  have up : ∀ {a : Addr} {u : HO}, H a = some u → upd H p o a = some u := fun {a u} e => by
    have : a ≠ p := by rintro rfl; rw [e] at hp; cases hp
    rw [upd_ne this]; exact e
  cases r with
  | non => exact .base .non
  | bl x => exact .base (.bl x)
  | int i => exact .base (.int i)
  | str x => exact .base (.str x)
  | tok e => exact absurd rfl (hk 1)
  | @adr a => exact absurd rfl (hk (a + 2))
  | lst f e r => exact .base (.lst (up e))
  | tup e r => exact .base (.tup (up e))
  | dct f e r => exact .base (.dK (up e))
theorem isiT_read {b : Bool} {Q : Bool → Hp → Prop} (hs : σ[0]? = some (some v)) (r : Rep G F H v t) (hn : ∀ n, t ≠ .tok n) (hk : PySem.W.kitAny K (.type (tyOfT t)) [.type "list", .type "tuple"] = some b) (q : ∀ p o, H p = none → Q b (upd H p o)) : tSeqs K σ H Q :=
  ⟨v, hs, ⟨by show 2 ≤ sizeLine; decide, fun p hp => ⟨v, p, _, _, _, b, rfl, upd_same, paired_tys [.list, .tuple], tyx_up hp r hn, hk, ⟨b, rfl, q p _ hp⟩⟩⟩⟩
theorem reps_sh : ∀ {vs : List V} {us : List T}, nomuts us = true → Reps G F H vs us → RepDs G F H vs us []
  | [], [], _, .nil => .nil
  | v :: vs, u :: us, n, .cons r rs => by
    have n : (u.nomut && nomuts us) = true := n
    rw [Bool.and_eq_true] at n
    exact RepDs.cons (fp := []) (fp' := []) (.sh n.1 r) (reps_sh n.2 rs)
theorem repD_tup {us : List T} {fp : List Addr} (r : RepD G F H v (.tup us) fp) : ∃ a vs, v = .ref a ∧ H a = some (.tup vs) ∧ RepDs G F H vs us fp := by
  cases r with
  | sh n r =>
    obtain ⟨a, vs, rfl, e, q⟩ := repTupInv r
    exact ⟨a, vs, rfl, e, reps_sh n q⟩
  | tup e q => exact ⟨_, _, rfl, e, q⟩
theorem repD_lst {us : List T} {fp : List Addr} (r : RepD G F H v (.lst us) fp) : ∃ a vs fp', v = .ref a ∧ fp = a :: fp' ∧ H a = some (.lst vs) ∧ RepDs G F H vs us fp' := by
  cases r with
  | sh n r => cases n
  | lst e q => exact ⟨_, _, _, rfl, rfl, e, q⟩
/-- the parts' own addresses, part by part -/
theorem repDs_at : ∀ {vs : List V} {us : List T} {fp : List Addr} {i : Nat} {x : V}, RepDs G F H vs us fp → fp.Nodup → vs[i]? = some x → ∃ u fa fb fc, us[i]? = some u ∧ fp = fa ++ (fb ++ fc) ∧ RepD G F H x u fb ∧ RepDs G F H (vs.take i) (us.take i) fa ∧ RepDs G F H (vs.drop (i + 1)) (us.drop (i + 1)) fc
  | _, _, _, i, x, .nil, _, h => by simp at h
  | _, _, _, 0, x, .cons (fp := f1) (fp' := f2) r rs, nd, h => by
    simp at h
    subst h
    exact ⟨_, [], f1, f2, rfl, rfl, r, .nil, rs⟩
  | _, _, _, i + 1, x, .cons (fp := f1) (fp' := f2) r rs, nd, h => by
    obtain ⟨u, fa, fb, fc, h1, h2, h3, h4, h5⟩ := repDs_at rs (List.nodup_append.mp nd).2.1 (by simpa using h)
    exact ⟨u, f1 ++ fa, fb, fc, by simpa using h1, by rw [h2, List.append_assoc], h3, .cons r h4, h5⟩
mutual
theorem repD_kind : ∀ {v : V} {t : T} {fp : List Addr}, RepD G F H v t fp → ∀ a ∈ fp, (∃ xs, H a = some (.lst xs)) ∨ ∃ kvs, H a = some (.dK kvs)
  | _, _, _, .sh _ _, a, h => nomatch h
  | _, _, _, .lst e r, a, h => by
    rcases List.mem_cons.mp h with q | q
    · rw [q]; exact .inl ⟨_, e⟩
    · exact repDs_kind r a q
  | _, _, _, .tup e r, a, h => repDs_kind r a h
  | _, _, _, .dct e r, a, h => by
    rcases List.mem_cons.mp h with q | q
    · rw [q]; exact .inr ⟨_, e⟩
    · exact repDs_kind r a q
theorem repDs_kind : ∀ {vs : List V} {us : List T} {fp : List Addr}, RepDs G F H vs us fp → ∀ a ∈ fp, (∃ xs, H a = some (.lst xs)) ∨ ∃ kvs, H a = some (.dK kvs)
  | _, _, _, .nil, a, h => nomatch h
  | _, _, _, .cons r rs, a, h => (List.mem_append.mp h).elim (repD_kind r a) (repDs_kind rs a)
end
theorem repDs_app : ∀ {vs : List V} {us : List T} {fp : List Addr}, RepDs G F H vs us fp → ∀ {ws : List V} {ts : List T} {fp' : List Addr}, RepDs G F H ws ts fp' → RepDs G F H (vs ++ ws) (us ++ ts) (fp ++ fp')
  | _, _, _, .nil, _, _, _, q => q
  | _, _, _, .cons r rs, _, _, _, q => by
    rw [List.append_assoc]
    exact .cons r (repDs_app rs q)
theorem spoil_pss {rp : T → Str} {P : List Ent} {k : Nat} {nms : Nms} {spf : Bool} {adr : Addr} {fd : FuncData} {sp : Sp} {p1 p2 p3 p4 p5 p6 p7 p8 p9 p10 p11 p12 p13 p14 p15 p16 p17 p18 p19 p20 p21 p22 p23 p24 p25 p26 p27 p28 p29 p30 p31 p32 p33 p34 p35 p36 p37 p38 p39 p40 p41 p42 p43 p44 p45 : Pos} (h : XOkS X rp P k spoN nms spf) (a0 : varB spoN nms 0 "thing" = true) (a1 : varB spoN nms 1 "part" = true) (b1 : stoB spoN nms allTrueN 1 "part" = true)
    (g1 : glB nms "isinstance" = true) (g2 : glB nms "dict" = true) (g3 : glB nms "list" = true) (g4 : glB nms "tuple" = true) (g5 : glB nms "_law_spoilt" = true) (hl : (p41.endLine == p43.line) = true)
    (F : FnG X.prog X.w X.K X.mg X.base k adr fd ["thing"] sp) (hm : X.mg "_law_spoilt" = some (.ref adr)) (hk : PySem.W.keepIn X.K (.ref adr) = true) (hb : Binds X.K fd ["thing"] []) :
    PSs X [ (Stmt.If (test := (Expr.Call (func := (Expr.Name "isinstance" p1)) (args := [(Expr.Name "thing" p2), (Expr.Name "dict" p3)]) (keywords := []) (pos := p4))) (body := [ (Stmt.For (target := (Expr.Name "key" p5)) (iter := (Expr.Call (func := (Expr.Name "list" p6)) (args := [(Expr.Name "thing" p7)]) (keywords := []) (pos := p8))) (body := [ (Stmt.Expr (value := (Expr.Call (func := (Expr.Name "_law_spoilt" p9)) (args := [ (Expr.Subscript (value := (Expr.Name "thing" p10)) (slice := (Expr.Name "key" p11)) (pos := p12))]) (keywords := []) (pos := p13))) (pos := p14))]) (orelse := []) (pos := p15)), (Stmt.Assign (targets := [ (Expr.Subscript (value := (Expr.Name "thing" p16)) (slice := (Expr.Constant (Const.str "late") 0 p17)) (pos := p18))]) (value := (Expr.Constant (Const.int 1) 0 p19)) (pos := p20))]) (orelse := []) (pos := p21)), (Stmt.If (test := (Expr.Call (func := (Expr.Name "isinstance" p22)) (args := [ (Expr.Name "thing" p23), (Expr.Tuple (elts := [(Expr.Name "list" p24), (Expr.Name "tuple" p25)]) (k := 0) (pos := p26))]) (keywords := []) (pos := p27))) (body := [ (Stmt.For (target := (Expr.Name "part" p28)) (iter := (Expr.Name "thing" p29)) (body := [ (Stmt.Expr (value := (Expr.Call (func := (Expr.Name "_law_spoilt" p30)) (args := [(Expr.Name "part" p31)]) (keywords := []) (pos := p32))) (pos := p33))]) (orelse := []) (pos := p34))]) (orelse := []) (pos := p35)), (Stmt.If (test := (Expr.Call (func := (Expr.Name "isinstance" p36)) (args := [(Expr.Name "thing" p37), (Expr.Name "list" p38)]) (keywords := []) (pos := p39))) (body := [ (Stmt.Expr (value := (Expr.Call (func := (Expr.Attribute (Expr.Name "thing" p40) "append" p41)) (args := [(Expr.Constant (Const.str "late") 0 p42)]) (keywords := []) (pos := p43))) (pos := p44))]) (orelse := []) (pos := p45))] (tSpoil X.K sp) := by
  have hv : ∀ {p : Pos}, PE X (.Name "thing" p) (tVar 0) := fun {p} => by
    unfold varB at a0
    rw [Bool.and_eq_true] at a0
    obtain ⟨d1, d2⟩ := h.dbgAt a0.1
    exact pe_var (h.at a0.1) (h.vis a0.2) d1 d2
  have hp : ∀ {p : Pos}, PE X (.Name "part" p) (tVar 1) := fun {p} => by
    unfold varB at a1
    rw [Bool.and_eq_true] at a1
    obtain ⟨d1, d2⟩ := h.dbgAt a1.1
    exact pe_var (h.at a1.1) (h.vis a1.2) d1 d2
  have ty : ∀ {c : Ty} {p : Pos}, glB nms (tyName c) = true → PE X (.Name (tyName c) p) (L2.tC (.ty (tyName c))) := fun {c p} g => (tyB_ok (e := .Name (tyName c) p) h.toXOk (by show (seq (tyName c) (tyName c) && glB nms (tyName c)) = true; rw [seq_iff.2 rfl, g]; rfl)).1
  have mi : X.mg "isinstance" = none := h.mg _ (by decide +kernel)
  obtain ⟨s1, s2, s3⟩ := stoB_ok h.toXOk (fun x _ => h.fn x) b1
  refine pss_cons (ps_if (pt_val (pe_callB (x := "isinstance") call_isi (h.gl g1) mi (by decide +kernel) (pa_cons hv (pa_cons (ty (c := .dict) g2) pa_nil)) (by decide) (by decide) rfl rfl)) pss_bot pss_nil)
    (pss_cons (ps_if (pt_val (pe_callB (x := "isinstance") call_isiT (h.gl g1) mi (by decide +kernel) (pa_cons hv (pa_cons (pe_tup (pa_cons (ty (c := .list) g3) (pa_cons (ty (c := .tuple) g4) pa_nil))) pa_nil)) (by decide) (by decide) rfl rfl)) (pss_cons ?_ pss_nil) pss_nil)
    (pss_cons (ps_if (pt_val (pe_callB (x := "isinstance") call_isi (h.gl g1) mi (by decide +kernel) (pa_cons hv (pa_cons (ty (c := .list) g3) pa_nil)) (by decide) (by decide) rfl rfl)) (pss_cons ?_ pss_nil) pss_nil) pss_nil))
  · exact ps_for h.hp h.calm (pi_seq hv) (pg_name h.ndX s1 s2 s3) (pss_cons (ps_expr (pe_callG (E := E0) F h.room h.gd (h.gl g5) hm hk hb (pa_cons hp pa_nil) (by decide +kernel) rfl rfl) rfl) pss_nil) (fun x => rfl)
  · exact ps_expr (pe_bm PySem.F.plainAttrs_list PySem.F.slot_list_append PySem.F.type_list_append mt_append hv (pa_cons pe_str pa_nil) rfl rfl hl rfl rfl) rfl
/-! ### what it does -/
theorem Sp3s.len {fp : List Addr} {r : Addr → Nat} : ∀ {vs : List V} {c : Nat}, Sp3s fp r H vs c → True := fun _ => trivial
theorem sp3s_at {fp : List Addr} {r : Addr → Nat} : ∀ {vs : List V} {c : Nat}, Sp3s fp r H vs c → ∃ cs : List Nat, cs.length = vs.length ∧ cs.sum = c ∧ ∀ (i : Nat) (x : V), vs[i]? = some x → ∃ d, cs[i]? = some d ∧ Sp3 fp r H x d
  | _, _, .nil => ⟨[], rfl, rfl, fun i x h => by simp at h⟩
  | _, _, .cons (c := c) (d := d) q qs => by
    obtain ⟨cs, h1, h2, h3⟩ := sp3s_at qs
    refine ⟨c :: cs, by simp [h1], by simp [h2], fun i x h => ?_⟩
    cases i with
    | zero => simp at h; subst h; exact ⟨c, rfl, q⟩
    | succ i => exact h3 i x (by simpa using h)
theorem sum_take : ∀ (cs : List Nat) (i d : Nat), cs[i]? = some d → (cs.take (i + 1)).sum = (cs.take i).sum + d ∧ (cs.take (i + 1)).sum ≤ cs.sum
  | [], i, d, h => by simp at h
  | c :: cs, 0, d, h => by simp at h; subst h; simp
  | c :: cs, i + 1, d, h => by
    obtain ⟨h1, h2⟩ := sum_take cs i d (by simpa using h)
    simp only [List.take_succ_cons, List.sum_cons]
    exact ⟨by omega, by omega⟩
/-- the parts are spoilt, one behind another -/
theorem loop_read {d : Nat} {vs : List V} {fp : List Addr} {r : Addr → Nat} {c : Nat} {a : Addr} {D : Ends} {y z : Option V} (q : Sp3s fp r H vs c) (hr : ∀ x ∈ vs, rv r x ≤ r a) (hd : r a ≤ d) (hb : ∀ a, a ∈ fp → ∃ xs, H a = some (.lst xs) ∧ xs.length + c ≤ LINE)
    (hk : ((∃ xs, xs = vs ∧ H a = some (.lst xs)) ∨ (∃ xs, xs = vs ∧ H a = some (.tup xs))))
    (hD : ∀ (y : Option V) (H' : Hp), Post3 fp r H H' (r a) c → D.nx [some (.ref a), y, z] H') : tLoop K (spSpoil d) D [some (.ref a), y, z] H := by
  obtain ⟨cs, l1, l2, l3⟩ := sp3s_at q
  let Pv : Nat → St → Hp → Prop := fun i σ' H' => ∃ y', σ' = [some (.ref a), y', z] ∧ Post3 fp r H H' (r a) (cs.take i).sum
  have h0 : Pv 0 [some (.ref a), y, z] H := ⟨y, rfl, Post3.keep fun _ _ e => e⟩
  have step : ∀ i x σ' H', vs[i]? = some x → Pv i σ' H' → gName 1 x σ' H' fun σ2 H2 => tSeq (tDrop (tCall (spSpoil d) [] E0 (tCons (tVar 1) tNil))) tNext { D with nx := Pv (i + 1), ct := Pv (i + 1), bk := D.nx } σ2 H2 := fun i x σ' H' hx ⟨y', e1, p⟩ => by
    subst e1
    obtain ⟨dd, hdd, qx⟩ := l3 i x hx
    obtain ⟨s1, s2⟩ := sum_take cs i dd hdd
    have hxm := hr x (List.mem_of_getElem? hx)
    refine ⟨x, rfl, x, fp, r, dd, rfl, qx.post p, Nat.le_trans hxm hd, fun b hb' => ?_, fun H2 p2 => ⟨some x, rfl, ?_⟩⟩
    · obtain ⟨ys, e1, e2⟩ := hb b hb'
      obtain ⟨k, hk, e3⟩ := p.ext b ys hb' e1
      refine ⟨_, e3, ?_⟩
      rw [List.length_append, List.length_replicate]
      omega
    · rw [s1]
      exact p.trans p2 hxm
  have done : ∀ σ' H', Pv vs.length σ' H' → D.nx σ' H' := fun σ' H' ⟨y', e1, p⟩ => by
    subst e1
    rw [← l1, List.take_length, l2] at p
    exact hD y' H' p
  have stands : ∀ i σ' H', i ≤ vs.length → Pv i σ' H' → ∀ o, H a = some o → H' a = some o := fun i σ' H' hi ⟨y', e1, p⟩ o e => p.hi a o e (Nat.le_refl _)
  rcases hk with ⟨xs, rfl, e⟩ | ⟨xs, rfl, e⟩
  · exact ⟨.ref a, rfl, a, rfl, .inl ⟨⟨_, SqL.of e⟩, for_list Pv h0 (fun i σ' H' hi p => SqL.of (stands i σ' H' hi p _ e)) step done⟩⟩
  · exact ⟨.ref a, rfl, a, rfl, .inr ⟨⟨_, SqT.of e⟩, for_tup Pv h0 (fun i σ' H' hi p => SqT.of (stands i σ' H' hi p _ e)) step done⟩⟩
end
end TM

set_option Elab.async false
set_option linter.all false
set_option maxRecDepth 100000
set_option maxHeartbeats 8000000
namespace TM
open PySem PySem.Spec L2
open PyProof.Rows (envOfC)

/-! ### defs -/
/-- a def's text: body, scope; its names, the parameters first -/
structure DI where
  body : List Stmt
  scope : Scope
  N : List Str
def nodS : List Str → Bool
  | [] => true
  | x :: xs => !(memS x xs) && nodS xs
theorem nodS_ok : ∀ {l : List Str}, nodS l = true → l.Nodup
  | [], _ => List.nodup_nil
  | x :: xs, h => by
    have h : (!(memS x xs) && nodS xs) = true := h
    rw [Bool.and_eq_true] at h
    refine List.nodup_cons.mpr ⟨fun z => ?_, nodS_ok h.2⟩
    rw [memS_iff.2 z] at h
    cases h.1
def preS : List Str → List Str → Bool
  | _, [] => true
  | x :: xs, y :: ys => seq x y && preS xs ys
  | [], _ :: _ => false
theorem preS_ok : ∀ {N ps : List Str}, preS N ps = true → N.take ps.length = ps
  | _, [], _ => by simp
  | x :: xs, y :: ys, h => by
    have h : (seq x y && preS xs ys) = true := h
    rw [Bool.and_eq_true] at h
    rw [List.length_cons, List.take_succ_cons, preS_ok h.2, seq_eq h.1]
  | [], _ :: _, h => nomatch h
def scopeB (N ps : List Str) (sc : Scope) : Bool :=
  isFun sc.kind && (!sc.isCoroutine && (!sc.isGenerator && (nodS N && (preS N ps && ((ps.all fun x => isLoc (look sc.names x) || isCel (look sc.names x)) && sc.names.all fun y => !(isFre (some y.2)))))))
theorem scopeB_ok {N ps : List Str} {sc : Scope} (h : scopeB N ps sc = true) : FnScope N ps sc := by
  unfold scopeB at h
  simp only [Bool.and_eq_true] at h
  obtain ⟨h1, h2, h3, h4, h5, h6, h7⟩ := h
  refine ⟨?_, not_true_f h2, not_true_f h3, nodS_ok h4, preS_ok h5, fun x hx => ?_, fun y hy e => ?_⟩
  · cases e : sc.kind <;> rw [e] at h1 <;> first | rfl | cases h1
  · have := List.all_eq_true.1 h6 x hx
    rw [look_eq] at this
    rcases Bool.or_eq_true_iff.1 this with q | q
    · exact .inl (isLoc_eq q)
    · exact .inr (isCel_eq q)
  · have := List.all_eq_true.1 h7 y hy
    rw [e] at this
    cases this
def dbgB (N : List Str) : Bool := N.all fun x => !(seq x "__debug__") && !(seq x "__classdict__")
def chkF (P : List Ent) (en : Ent) (d : DI) : Bool := match en.fd with
  | .fn np ns b => (Nat.beq np en.ps.length && Nat.beq ns d.N.length) && (scopeB d.N en.ps d.scope && (dbgB d.N && chkSs d.N P d.scope.names false b d.body))
  | .draw => false
theorem dbgB_ok {N : List Str} (h : dbgB N = true) : ∀ x ∈ N, (x == ("__debug__" : Str)) = false ∧ (x == ("__classdict__" : Str)) = false := fun x hx => by
  have := List.all_eq_true.1 h x hx
  rw [Bool.and_eq_true] at this
  exact ⟨seq_ne (not_true_f this.1), seq_ne (not_true_f this.2)⟩
def isDraw : Fd → Bool
  | .draw => true
  | _ => false
def drawPs : List Str := ["stream", "many"]
/-- a def of the text is as the table says -/
inductive Good (P : List Ent) (en : Ent) (d : DI) : Prop
  | fn : chkF P en d = true → Good P en d
  | draw : isDraw en.fd = true → en.ps = drawPs → d.N = drawN → scopeB drawN drawPs d.scope = true → (∀ {X : Cx} {rp : T → Str} {k : Nat}, XOkS X rp P k drawN d.scope.names false → PSs X d.body (tDraw X.K)) → Good P en d
/-- .. and its function object stands behind the top -/
structure Stat (K : PySem.W.Frag) (mg : Str → Option Value) (en : Ent) (d : DI) : Prop where
  ex : ∃ adr fdt params, FunD K en.nm en.nm params d.body d.scope [] [] adr fdt ∧ mg en.nm = some (.ref adr) ∧ Binds K fdt en.ps [] ∧ ∀ kt ∈ en.kts, KBinds K fdt en.ps kt.2.1 (kgU kt.1 kt.2.1 kt.2.2) (kgV kt.1 kt.2.1 kt.2.2)
section
variable {prog : Program} {w : World} {K : PySem.W.Frag} {mg : Str → Option Value} {base : Heap} {P : List Ent} {k : Nat}
/-- all defs keep their promises, to the depth k -/
def AllOk (prog : Program) (w : World) (K : PySem.W.Frag) (mg : Str → Option Value) (base : Heap) (P : List Ent) (k : Nat) : Prop :=
  ∀ (f : Nat) (en : Ent), P[f]? = some en → ∃ adr fdt, FnG prog w K mg base k adr fdt en.ps (spT rpT P k f en.ps.length) ∧ mg en.nm = some (.ref adr) ∧ PySem.W.keepIn K (.ref adr) = true ∧ Binds K fdt en.ps [] ∧
    ∀ kt ∈ en.kts, KBinds K fdt en.ps kt.2.1 (kgU kt.1 kt.2.1 kt.2.2) (kgV kt.1 kt.2.1 kt.2.2)
theorem xok_of (all : AllOk prog w K mg base P k) (hmg : ∀ b ∈ bNames, mg b = none) {N ps : List Str} {scope : Scope} (S : FnScope N ps scope) (hd : ∀ x ∈ N, (x == ("__debug__" : Str)) = false ∧ (x == ("__classdict__" : Str)) = false) {qual : Str} {f : Addr} {cdv : Value} {A : Around} {outer : List PySem.Env} {s : Shared} {H : Hp} {E : XK}
    {sp : Bool} (hr : Room k (A.deeper (envOfC qual scope s.heap.objs.size f cdv))) (hg : (A.deeper (envOfC qual scope s.heap.objs.size f cdv)).guards = some []) (hsp : sp = true → 7 ≤ k ∧ SpoilOk prog w K mg base) : XOkS (cxOf CX0 prog w K mg base N qual scope f cdv A outer s H E).nox rpT P k N scope.names sp where
  hN := rfl
  nd := S.nd
  calm := rfl
  kind := S.kind
  nm := rfl
  mg := hmg
  co := fun f en e => ⟨all f en e⟩
  room := hr
  gd := hg
  hrp := rfl
  dbg := hd
  fn := fun _ => rfl
  hp := PassesOwn.never
  spo := hsp
theorem start_get {N : List Str} {vs : List V} {i : Nat} {v : V} (h : vs[i]? = some v) : (start N vs)[i]? = some (some v) := by
  obtain ⟨hi, e⟩ := List.getElem?_eq_some_iff.1 h
  unfold L2.start
  rw [List.getElem?_append_left (by simpa using hi), List.getElem?_map, h]
  rfl
theorem reps_get {G : Gb} {F : Fz} {H : Hp} : ∀ {vs : List V} {us : List T}, Reps G F H vs us → ∀ {i : Nat} {u : T}, us[i]? = some u → ∃ v, vs[i]? = some v ∧ Rep G F H v u
  | _, _, .nil, i, u, h => by simp at h
  | _, _, .cons r rs, 0, u, h => by simp at h; subst h; exact ⟨_, rfl, r⟩
  | _, _, .cons r rs, i + 1, u, h => reps_get rs (i := i) (by simpa using h)
theorem rep_rd {G : Gb} {F : Fz} {H : Hp} {v : V} {u : T} (r : Rep G F H v u) : RepV G F H v u.rd [] := by
  unfold T.rd RepV
  cases h : u.nomut with
  | true => exact RepD.sh h r
  | false => exact ⟨r, rfl⟩
/-- at a def's entry -/
theorem start_SR {G : Gb} {F : Fz} {H : Hp} {b : Nat} {N : List Str} {vs : List V} {us : List T} (ok : FOk G F H) (s : SInv G b H) (r : Reps G F H vs us) : SR G F H F H (start N vs) (us.map (fun t => some t.rd) ++ List.replicate (N.length - us.length) none) b (fun _ => []) where
  stp := Stp.refl ok s
  len := by unfold L2.start; simp [r.length]
  vw := fun i u e => by
    have hi : i < us.length := by
      by_cases hi : i < us.length
      · exact hi
      · rw [List.getElem?_append_right (by simpa using hi), List.getElem?_replicate] at e
        split at e <;> cases e
    rw [List.getElem?_append_left (by simpa using hi), List.getElem?_map] at e
    cases e1 : us[i]? with
    | none => rw [e1] at e; cases e
    | some t =>
      rw [e1] at e
      cases e
      obtain ⟨v, h1, h2⟩ := reps_get r e1
      exact ⟨v, start_get h1, rep_rd h2⟩
  emp := fun _ _ => rfl
  own := fun _ => ⟨List.nodup_nil, fun _ k => nomatch k⟩
  dis := fun _ _ _ k => nomatch k

theorem fn_step (all : AllOk prog w K mg base P k) (hmg : ∀ b ∈ bNames, mg b = none) {f : Nat} {en : Ent} {d : DI} (hP : P[f]? = some en) (hc : chkF P en d = true) {params : Arguments} {adr : Addr} {fdt : FuncData} (F : FunD K en.nm en.nm params d.body d.scope [] [] adr fdt) :
    FnG prog w K mg base (k + 1) adr fdt en.ps (spT rpT P (k + 1) f en.ps.length) := by
  unfold chkF at hc
  split at hc
  · rename_i np ns b e
    simp only [Bool.and_eq_true] at hc
    obtain ⟨⟨c1, c2⟩, c3, c4, c5⟩ := hc
    have c1 := Nat.eq_of_beq_eq_true c1
    have c2 := Nat.eq_of_beq_eq_true c2
    have S := scopeB_ok c3
    refine FunD.okG F S (fun vs H Q E h => h.1) (fun cdv A outer s H vs Q E hr hgd h => ⟨_, PSs.nox (okSs (sp := false) b (xok_of all hmg S (dbgB_ok c4) hr hgd (fun z => nomatch z)) c5), ?_⟩)
    obtain ⟨hl, G, F, us, bd, ok, s0, r, hs⟩ := h
    have hul : us.length = np := by rw [← r.length, hl, c1]
    unfold run at hs
    rw [fds_get hP, e] at hs
    dsimp only at hs
    rw [if_pos hul] at hs
    have hs := (sat_bind _ _).1 hs
    refine ⟨G, F, H, bd, F, _, bd, _, s0, ok, start_SR ok s0 r, ?_⟩
    have hns : ns - np = d.N.length - us.length := by rw [c2, hul]
    rw [hns] at hs
    refine hs.imp (fun o b' ho => ?_) fun _ _ _ z => z
    cases o with
    | nx τ => exact fun σ' H' F' fps' S' L => ho .non H' F' [] S'.stp (RepD.sh rfl .non) ⟨List.nodup_nil, fun _ k => nomatch k⟩
    | rt v => exact ho
    | bk τ => exact ho.elim
  · cases hc
theorem draw_step (all : AllOk prog w K mg base P k) (hmg : ∀ b ∈ bNames, mg b = none) {f : Nat} {en : Ent} {d : DI} (hP : P[f]? = some en) (h1 : isDraw en.fd = true) (h2 : en.ps = drawPs) (h3 : d.N = drawN) (h4 : scopeB drawN drawPs d.scope = true)
    (h5 : ∀ {X : Cx} {rp : T → Str} {k : Nat}, XOkS X rp P k drawN d.scope.names false → PSs X d.body (tDraw X.K)) {params : Arguments} {adr : Addr} {fdt : FuncData} (F : FunD K en.nm en.nm params d.body d.scope [] [] adr fdt) :
    FnG prog w K mg base (k + 1) adr fdt en.ps (spT rpT P (k + 1) f en.ps.length) := by
  have S := scopeB_ok h4
  rw [h2]
  refine FunD.okG F S (fun vs H Q E h => h.1) (fun cdv A outer s H vs Q E hr hgd h => ⟨_, PSs.nox (h5 (xok_of all hmg S (dbgB_ok (by decide +kernel)) hr hgd (fun z => nomatch z))), ?_⟩)
  obtain ⟨hl, G, F, us, bd, ok, s0, r, hs⟩ := h
  unfold run at hs
  rw [fds_get hP] at hs
  cases e : en.fd with
  | fn a b c => rw [e] at h1; cases h1
  | draw =>
    rw [e] at hs
    dsimp only at hs
    split at hs
    · rename_i n
      obtain ⟨hn, hs⟩ := sat_ite hs
      cases r with
      | @cons v1 vr _ _ r1 rr =>
        cases rr with
        | @cons v2 vr2 _ _ r2 rr2 =>
          cases rr2
          cases repIntInv r2
          cases r1 with
          | @tok s l hG =>
            subst hG
            obtain ⟨a1, a2, a3⟩ := hs
            cases bd with
            | zero => exact absurd a2 (Nat.lt_irrefl 0)
            | succ bd =>
              refine draw_read (n := n) s0.1 hn.1 hn.2 s0 fun i H' i0 i1 ex si => ?_
              have := a3 i.toNat (by omega)
              have this : EQ (some (s, l)) F H Q ⟨.int (i.toNat : Nat), 2⟩ bd := this
              rw [Int.toNat_of_nonneg i0] at this
              exact this (.int i) H' F [] ⟨ex, fun _ h => h, fun _ h => .inl h, fun a fa => ⟨(ok a fa).1, by
                obtain ⟨o, ho⟩ := (ok a fa).2
                exact ⟨o, ex a o ho (ok a fa).1⟩⟩, si⟩ (RepD.sh rfl (.int i)) ⟨List.nodup_nil, fun _ k => nomatch k⟩
    · exact hs.elim
/-- every def, to every depth -/
theorem all_ok (hmg : ∀ b ∈ bNames, mg b = none) (hst : ∀ (f : Nat) (en : Ent), P[f]? = some en → ∃ d, Stat K mg en d ∧ Good P en d) : ∀ k, AllOk prog w K mg base P k
  | 0 => fun f en hP => by
    obtain ⟨d, ⟨adr, fdt, params, F, h1, h2, h3⟩, _⟩ := hst f en hP
    refine ⟨adr, fdt, ⟨fun vs H Q E h => h.1, fun A outer s H args us vs Q E hr hg he hb hv hs => ?_⟩, h1, F.kp, h2, h3⟩
    obtain ⟨_, G, F, us, bd, ok, s0, r, hs⟩ := hs
    exact hs.elim
  | k + 1 => fun f en hP => by
    obtain ⟨d, ⟨adr, fdt, params, F, h1, h2, h3⟩, g⟩ := hst f en hP
    refine ⟨adr, fdt, ?_, h1, F.kp, h2, h3⟩
    have all : AllOk prog w K mg base P k := all_ok hmg hst k
    cases g with
    | fn hc => exact fn_step all hmg hP hc F
    | draw g1 g2 g3 g4 g5 => exact draw_step all hmg hP g1 g2 g3 g4 g5 F
end
end TM

set_option Elab.async false
set_option linter.all false
set_option maxRecDepth 100000
set_option maxHeartbeats 8000000
namespace TM
open PySem PySem.Spec L2
open PyProof.Rows (envOfC)

/-! ### the stream is made -/
def BUD : Nat := 1000000000000
def spStream (K : PySem.W.Frag) : Sp := fun vs H Q _ => ∃ (a : Addr) (ns : List Int), vs = [.ref a] ∧ SqL K H a (ns.map V.int) ∧
  ∀ l s, H l = none → s ≠ l → H s = none → Q (.ref s) (upd (upd H l (.lst (ns.map V.int))) s (.lst [.ref l, .int 0, .int 0, .int 19]))
abbrev rLs (K : PySem.W.Frag) : List V → Hp → VK → Prop := fun xs H Q => ∃ p ys, xs = [.ref p] ∧ (SqL K H p ys ∨ SqT K H p ys) ∧ ∀ l, H l = none → Q (.ref l) (upd H l (.lst ys))
def tStream (K : PySem.W.Frag) : TS := tSeq (tRet (tLst (tCons (tCB (rLs K) (tCons (tVar 0) tNil)) (tCons (c_ 0) (tCons (c_ 0) (tCons (c_ 19) tNil)))))) tNext
def strN : List Str := ["script"]
section
variable {prog : Program} {w : World} {K : PySem.W.Frag} {mg : Str → Option Value} {base : Heap} {P : List Ent} {k : Nat}
theorem stream_pss {X : Cx} {rp : T → Str} {nms : Nms} {sp : Bool} {p1 p2 p3 p4 p5 p6 p7 p8 : Pos} (h : XOkS X rp P k strN nms sp) (a0 : varB strN nms 0 "script" = true) (gl : glB nms "list" = true) :
    PSs X [ (Stmt.Return (value := (some (Expr.List (elts := [ (Expr.Call (func := (Expr.Name "list" p1)) (args := [(Expr.Name "script" p2)]) (keywords := []) (pos := p3)), (Expr.Constant (Const.int 0) 0 p4), (Expr.Constant (Const.int 0) 0 p5), (Expr.Constant (Const.int 19) 0 p6)]) (pos := p7)))) (pos := p8))] (tStream X.K) := by
  refine pss_cons (ps_ret (pe_lst (pa_cons ?_ (pa_cons pe_int (pa_cons pe_int (pa_cons pe_int pa_nil)))))) pss_nil
  have hv : PE X (.Name "script" p2) (tVar 0) := by
    unfold varB at a0
    rw [Bool.and_eq_true] at a0
    obtain ⟨d1, d2⟩ := h.dbgAt a0.1
    exact pe_var (h.at a0.1) (h.vis a0.2) d1 d2
  exact pe_callTy call_list_of (h.gl gl) (h.mg _ (by decide +kernel)) (by decide +kernel) (pa_cons hv pa_nil) (by decide) (by decide) rfl rfl
theorem stream_ok {d : DI} {nm : Str} (all : AllOk prog w K mg base P k) (hmg : ∀ b ∈ bNames, mg b = none) (hN : d.N = strN) (hs : scopeB strN strN d.scope = true)
    (h5 : ∀ {X : Cx} {rp : T → Str} {k : Nat}, XOkS X rp P k strN d.scope.names false → PSs X d.body (tStream X.K)) {params : Arguments} {adr : Addr} {fdt : FuncData} (F : FunD K nm nm params d.body d.scope [] [] adr fdt) :
    FnG prog w K mg base (k + 1) adr fdt strN (spStream K) := by
  have S := scopeB_ok hs
  refine FunD.okG F S (fun vs H Q E ⟨a, ns, e, _⟩ => by rw [e]; rfl) (fun cdv A outer s H vs Q E hr hgd h => ⟨_, PSs.nox (h5 (xok_of all hmg S (dbgB_ok (by decide +kernel)) hr hgd (fun z => nomatch z))), ?_⟩)
  obtain ⟨a, ns, rfl, hS, hQ⟩ := h
  refine ⟨.ref a, rfl, a, _, rfl, .inl hS, fun l hl => ⟨by show 4 ≤ sizeLine; decide, fun p hp => ?_⟩⟩
  have hpl : p ≠ l := by
    rintro rfl
    rw [upd_same] at hp; cases hp
  rw [upd_ne hpl] at hp
  exact hQ l p hl hpl hp

/-! ### the law -/
def spLaw (K : PySem.W.Frag) : Sp := fun vs H Q _ => ∃ (a : Addr) (ns : List Int), vs = [.ref a] ∧ ns.length ≤ 1000 ∧ SqL K H a (ns.map V.int) ∧ ∀ H', Q (.bl true) H'
/-- the law's frame behind its first line -/
def lawEnv (ns : Nat) : TM.Env := none :: some ⟨.tok 1, 2⟩ :: List.replicate (ns - 2) none
def isTrueO : Out → Nat → Prop := fun o _ => ∃ lv, o = .rt ⟨.bl true, lv⟩
def LawRun (rp : T → Str) (P : List Ent) (k ns : Nat) (b : Ss) : Prop := Sat isTrueO (fun _ _ _ => False) (evSs rp (run rp (fds P) k) b (lawEnv ns)) BUD
theorem bool_of {G : Gb} {F : Fz} {H : Hp} {v : V} {lv : Nat} {fp : List Addr} {c : Bool} (r : RepV G F H v ⟨.bl c, lv⟩ fp) : v = .bl c := by
  have r := r.share
  cases r
  rfl
theorem law_step {d : DI} {dS : DI} {ss : Ss} {rest : List Stmt} {p1 p2 p3 p4 p5 : Pos} (all : AllOk prog w K mg base P k) (hmg : ∀ b ∈ bNames, mg b = none)
    (hS : ∃ adr fdt, FnG prog w K mg base k adr fdt strN (spStream K) ∧ mg "_law_stream" = some (.ref adr) ∧ PySem.W.keepIn K (.ref adr) = true ∧ Binds K fdt strN [])
    (hb : d.body = .Assign [.Name "stream" p1] (.Call (.Name "_law_stream" p2) [.Name "script" p3] [] p4) p5 :: rest)
    (hsc : scopeB d.N ["script"] d.scope = true) (hdb : dbgB d.N = true) (hv : varB d.N d.scope.names 0 "script" = true) (hst : stoB d.N d.scope.names allTrueN 1 "stream" = true) (hg : glB d.scope.names "_law_stream" = true)
    {sp : Bool} (hsp : sp = true → 7 ≤ k ∧ SpoilOk prog w K mg base) (hc : chkSs d.N P d.scope.names sp ss rest = true) (hrun : LawRun rpT P k d.N.length ss) {params : Arguments} {adr : Addr} {fdt : FuncData} (F : FunD K "law" "law" params d.body d.scope [] [] adr fdt) :
    FnG prog w K mg base (k + 1) adr fdt ["script"] (spLaw K) := by
  have S := scopeB_ok hsc
  obtain ⟨sa, sf, hF, h1, h2, h3⟩ := hS
  have hlen : 2 ≤ d.N.length := by
    unfold stoB at hst
    rw [Bool.and_eq_true] at hst
    have := atN_eq hst.1
    obtain ⟨h, _⟩ := List.getElem?_eq_some_iff.1 this
    omega
  refine FunD.okG F S (fun vs H Q E ⟨a, ns, e, _⟩ => by rw [e]; rfl) (fun cdv A outer s H vs Q E hr hgd h => ?_)
  have xo := xok_of (E := E) (s := s) (H := H) (outer := outer) all hmg S (dbgB_ok hdb) hr hgd hsp
  obtain ⟨g1, g2, g3⟩ := stoB_ok xo.toXOk (fun x _ => xo.fn x) hst
  have hv' : PE (cxOf CX0 prog w K mg base d.N "law" d.scope adr cdv A outer s H E).nox (.Name "script" p3) (tVar 0) := by
    unfold varB at hv
    rw [Bool.and_eq_true] at hv
    obtain ⟨d1, d2⟩ := xo.dbgAt hv.1
    exact pe_var (xo.at hv.1) (xo.vis hv.2) d1 d2
  refine ⟨_, PSs.nox (by rw [hb]; exact pss_cons (ps_set xo.ndX g1 g2 (pe_callG (E := fun _ _ _ => False) hF xo.room xo.gd (xo.gl hg) h1 h2 h3 (pa_cons hv' pa_nil) (by decide +kernel) rfl rfl) rfl g3) (okSs ss xo hc)), ?_⟩
  obtain ⟨a, ns, rfl, hns, hSq, hQ⟩ := h
  refine ⟨.ref a, start_get rfl, a, ns, rfl, hSq, fun l st hl hsl hs => ?_⟩
  have hN : ∃ r, L2.start d.N [V.ref a] = some (.ref a) :: none :: r ∧ r = List.replicate (d.N.length - 2) none := by
    refine ⟨_, ?_, rfl⟩
    unfold L2.start
    obtain ⟨m, hm⟩ : ∃ m, d.N.length = m + 2 := ⟨d.N.length - 2, by omega⟩
    rw [hm]
    rfl
  obtain ⟨r, e1, e2⟩ := hN
  generalize hH : upd (upd H l (.lst (ns.map V.int))) st (.lst [.ref l, .int 0, .int 0, .int 19]) = H1
  have inv : SInv (some (st, l)) BUD H1 := by
    subst hH
    exact ⟨hsl, ns, 0, 0, 19, upd_same, by rw [upd_ne hsl.symm, upd_same], hns, by decide, by decide, by decide, by decide, by decide⟩
  refine ⟨some (st, l), fun _ => False, H1, BUD, fun _ => False, lawEnv d.N.length, BUD, fun _ => [], inv, fun a f => f.elim, ?_, ?_⟩
  · show SR (some (st, l)) (fun _ => False) H1 (fun _ => False) H1 ((L2.start d.N [V.ref a]).set 1 (some (.ref st))) (lawEnv d.N.length) BUD fun _ => []
    rw [e1]
    refine ⟨Stp.refl (fun a f => f.elim) inv, ?_, fun i u e => ?_, fun _ _ => rfl, fun _ => ⟨List.nodup_nil, fun _ k => nomatch k⟩, fun _ _ _ k => nomatch k⟩
    · rw [e2]; simp [lawEnv]
    · match i, e with
      | 0, e => cases e
      | 1, e =>
        cases e
        exact ⟨.ref st, rfl, RepD.sh rfl (.tok rfl)⟩
      | i + 2, e =>
        have e : (List.replicate (d.N.length - 2) none)[i]? = some (some u) := e
        rw [List.getElem?_replicate] at e
        split at e <;> cases e
  · unfold LawRun at hrun
    refine hrun.imp (fun o b' ⟨lv, ho⟩ => ?_) fun _ _ _ z => z.elim
    subst ho
    exact fun v H' F' fp _ r _ => by rw [bool_of r]; exact hQ H'
end
end TM

set_option Elab.async false
set_option linter.all false
set_option maxRecDepth 100000
set_option maxHeartbeats 8000000
namespace TM
open PySem PySem.Spec L2
open PyProof.Rows (envOfC)

/-! ### the def that spoils, to any depth -/
def spS : Nat → Sp
  | 0 => fun _ _ _ _ => False
  | d + 1 => spSpoil d
section
variable {prog : Program} {w : World} {K : PySem.W.Frag} {mg : Str → Option Value} {base : Heap}
theorem repDs_len {G : Gb} {F : Fz} {H : Hp} : ∀ {vs : List V} {us : List T} {fp : List Addr}, RepDs G F H vs us fp → vs.length = us.length
  | _, _, _, .nil => rfl
  | _, _, _, .cons _ rs => congrArg Nat.succ (repDs_len rs)
theorem kit1 {G : Gb} {F : Fz} {H : Hp} {v : V} {t : T} {b : Bool} (c : Ty) (r : Rep G F H v t) (h : isTy t c = .ok b) : TyX K H v (.type (tyOfT t)) ∧ PySem.W.kitOne K (.type (tyOfT t)) (.type (tyName c)) = some b := by
  obtain ⟨c', h1, h2, h3⟩ := kit_tab (K := K) (c := c) (b := 0) (Qa := fun _ _ => True) (E := fun _ _ _ => True) r (by rw [h]; trivial)
  rw [h] at h3
  cases h3
  exact ⟨h1, h2⟩
theorem kitA {G : Gb} {F : Fz} {H : Hp} {v : V} {t : T} {b : Bool} (r : Rep G F H v t) (h : isTys t [.list, .tuple] = .ok b) : PySem.W.kitAny K (.type (tyOfT t)) [.type "list", .type "tuple"] = some b := by
  obtain ⟨c', h1, h2, h3⟩ := isTys_ok (K := K) (cs := [.list, .tuple]) (β := Bool) (f := fun b => R.ok b) (b := 0) (Qa := fun _ _ => True) (E := fun _ _ _ => True) r (by simp) (by rw [h]; trivial)
  rw [h] at h3
  cases h3
  exact h2
mutual
theorem sp3_rep {fp : List Addr} {r : Addr → Nat} {H : Hp} : ∀ {v : V} {c : Nat}, Sp3 fp r H v c → ∃ t : T, Rep none (fun _ => True) H v t
  | _, _, .non => ⟨_, .non⟩
  | _, _, .bl b => ⟨_, .bl b⟩
  | _, _, .int i => ⟨_, .int i⟩
  | _, _, .str x => ⟨_, .str x⟩
  | _, _, .lst ha e hr hs => by
    obtain ⟨us, q⟩ := sp3s_rep hs
    exact ⟨_, .lst trivial e q⟩
  | _, _, .tup ha e hr hs => by
    obtain ⟨us, q⟩ := sp3s_rep hs
    exact ⟨_, .tup e q⟩
theorem sp3s_rep {fp : List Addr} {r : Addr → Nat} {H : Hp} : ∀ {vs : List V} {c : Nat}, Sp3s fp r H vs c → ∃ us : List T, Reps none (fun _ => True) H vs us
  | _, _, .nil => ⟨_, .nil⟩
  | _, _, .cons q qs => by
    obtain ⟨t, h⟩ := sp3_rep q
    obtain ⟨us, hs⟩ := sp3s_rep qs
    exact ⟨_, .cons h hs⟩
end
theorem spoil_read {d : Nat} {H : Hp} {v : V} {fp : List Addr} {r : Addr → Nat} {c : Nat} {Q : VK} (q : Sp3 fp r H v c) (hd : rv r v ≤ d) (hb : ∀ a, a ∈ fp → ∃ xs, H a = some (.lst xs) ∧ xs.length + c ≤ LINE) (hQ : ∀ H', Post3 fp r H H' (rv r v) c → Q .non H') :
    tSpoil K (spS d) { nx := fun _ H' => Q .non H', rt := Q } [some v, none, none] H := by
  have up : ∀ {p : Addr} {o : HO}, H p = none → ∀ c u, H c = some u → upd H p o c = some u := fun {p o} hp c u e => by
    have : c ≠ p := by rintro rfl; rw [e] at hp; cases hp
    rw [upd_ne this]; exact e
  have plain : ∀ t : T, Rep none (fun _ => True) H v t → (∀ n, t ≠ .tok n) → isTy t .dict = .ok false → isTys t [.list, .tuple] = .ok false → isTy t .list = .ok false → tSpoil K (spS d) { nx := fun _ H' => Q .non H', rt := Q } [some v, none, none] H := fun t rs nt e1 e2 e3 => by
    obtain ⟨k1, k2⟩ := kit1 (K := K) .dict rs e1
    obtain ⟨k3, k4⟩ := kit1 (K := K) .list rs e3
    refine isi_read rfl k1 k2 ?_
    refine (if_neg (by decide)).mpr ?_
    refine isiT_read rfl rs nt (kitA rs e2) fun p o hp => ?_
    refine (if_neg (by decide)).mpr ?_
    refine isi_read rfl (tyx_up hp rs nt) k4 ?_
    refine (if_neg (by decide)).mpr ?_
    exact hQ _ (Post3.keep fun a u e => up hp a u e)
  cases q with
  | non => exact plain .non .non (fun _ => by intro h; cases h) rfl rfl rfl
  | bl b => exact plain (.bl b) (.bl b) (fun _ => by intro h; cases h) rfl rfl rfl
  | int i => exact plain (.int i) (.int i) (fun _ => by intro h; cases h) rfl rfl rfl
  | str s => exact plain (.str s) (.str s) (fun _ => by intro h; cases h) rfl rfl rfl
  | @tup a vs c ha e hr hs =>
    obtain ⟨us, rq⟩ := sp3s_rep hs
    have rs : Rep none (fun _ => True) H (.ref a) (.tup us) := .tup e rq
    have nt : ∀ n, (T.tup us) ≠ .tok n := fun n z => nomatch z
    obtain ⟨k1, k2⟩ := kit1 (K := K) .dict rs (b := false) rfl
    obtain ⟨k3, k4⟩ := kit1 (K := K) .list rs (b := false) rfl
    obtain ⟨d', rfl⟩ : ∃ d', d = d' + 1 := ⟨d - 1, by have : r a + 1 ≤ d := hd; omega⟩
    refine isi_read rfl k1 k2 ?_
    refine (if_neg (by decide)).mpr ?_
    refine isiT_read (b := true) rfl rs nt (kitA rs rfl) fun p o hp => ?_
    refine (if_pos rfl).mpr ?_
    have p0 : Post3 fp r H (upd H p o) 0 0 := Post3.keep fun a u e => up hp a u e
    refine loop_read (hs.post p0) hr (by have : r a + 1 ≤ d' + 1 := hd; omega) (fun b hb' => by
      obtain ⟨xs, h1, h2⟩ := hb b hb'
      exact ⟨xs, up hp _ _ h1, h2⟩) (.inr ⟨_, rfl, up hp _ _ e⟩) fun y H' p' => ?_
    have ea : H' a = some (.tup vs) := p'.hi a _ (up hp _ _ e) (Nat.le_refl _)
    refine isi_read rfl (.base (.tup ea)) k4 ?_
    refine (if_neg (by decide)).mpr ?_
    have := (Post3.keep (m := r a) (c := 0) (fp := fp) (r := r) fun a u e => up (o := o) hp a u e).trans p' (Nat.le_refl _)
    exact hQ _ (this.mono (Nat.le_succ _) (by omega))
  | @lst a vs c ha e hr hs =>
    obtain ⟨us, rq⟩ := sp3s_rep hs
    have rs : Rep none (fun _ => True) H (.ref a) (.lst us) := .lst trivial e rq
    have nt : ∀ n, (T.lst us) ≠ .tok n := fun n z => nomatch z
    obtain ⟨k1, k2⟩ := kit1 (K := K) .dict rs (b := false) rfl
    obtain ⟨k3, k4⟩ := kit1 (K := K) .list rs (b := true) rfl
    obtain ⟨d', rfl⟩ : ∃ d', d = d' + 1 := ⟨d - 1, by have : r a + 1 ≤ d := hd; omega⟩
    refine isi_read rfl k1 k2 ?_
    refine (if_neg (by decide)).mpr ?_
    refine isiT_read (b := true) rfl rs nt (kitA rs rfl) fun p o hp => ?_
    refine (if_pos rfl).mpr ?_
    have p0 : Post3 fp r H (upd H p o) 0 0 := Post3.keep fun a u e => up hp a u e
    refine loop_read (hs.post p0) hr (by have : r a + 1 ≤ d' + 1 := hd; omega) (fun b hb' => by
      obtain ⟨xs, h1, h2⟩ := hb b hb'
      exact ⟨xs, up hp _ _ h1, by omega⟩) (.inl ⟨_, rfl, up hp _ _ e⟩) fun y H' p' => ?_
    have ea : H' a = some (.lst vs) := p'.hi a _ (up hp _ _ e) (Nat.le_refl _)
    have hlen : vs.length < sizeLine := by
      obtain ⟨xs, h1, h2⟩ := hb a ha
      rw [e] at h1
      cases h1
      rw [line_eq]
      omega
    refine isi_read rfl (.base (.lst ea)) k4 ?_
    refine (if_pos rfl).mpr ?_
    refine ⟨.ref a, rfl, .inl ⟨rfl, _, SqL.of ea⟩, a, vs, .str "late", rfl, rfl, ea, hlen, ?_⟩
    have q1 := (Post3.keep (m := r a) (c := 0) (fp := fp) (r := r) fun a u e => up (o := o) hp a u e).trans p' (Nat.le_refl _)
    rw [Nat.zero_add] at q1
    refine hQ _ ⟨fun b o hb' hn => ?_, fun b xs hb' hx => ?_, fun b o hb' hn => ?_⟩
    · rw [upd_ne (fun z : b = a => hn (by rw [z]; exact ha))]
      exact q1.out b o hb' hn
    · by_cases hba : b = a
      · subst hba
        rw [e] at hx
        cases hx
        exact ⟨1, by omega, by rw [upd_same]; rfl⟩
      · obtain ⟨k, hk, h2⟩ := q1.ext b xs hb' hx
        exact ⟨k, by omega, by rw [upd_ne hba]; exact h2⟩
    · have hn : r a + 1 ≤ r b := hn
      rw [upd_ne (fun z : b = a => by rw [z] at hn; omega)]
      exact q1.hi b o hb' (by omega)
theorem spoil_all {d : DI} {nm : Str} (hmg : ∀ b ∈ bNames, mg b = none) (hN : d.N = spoN) (hsc : scopeB spoN ["thing"] d.scope = true) {params : Arguments} {adr : Addr} {fdt : FuncData} (F : FunD K nm nm params d.body d.scope [] [] adr fdt) (hm : mg "_law_spoilt" = some (.ref adr)) (hb : Binds K fdt ["thing"] [])
    (hp : ∀ {X : Cx} {k : Nat} {sp : Sp}, XOkS X rpT [] k spoN d.scope.names false → FnG X.prog X.w X.K X.mg X.base k adr fdt ["thing"] sp → X.mg "_law_spoilt" = some (.ref adr) → PySem.W.keepIn X.K (.ref adr) = true → Binds X.K fdt ["thing"] [] → PSs X d.body (tSpoil X.K sp)) :
    ∀ n, FnG prog w K mg base n adr fdt ["thing"] (spS n)
  | 0 => ⟨fun _ _ _ _ h => h.elim, fun _ _ _ _ _ _ _ _ _ _ _ _ _ _ h => h.elim⟩
  | n + 1 => by
    have ih := spoil_all hmg hN hsc F hm hb hp n
    have S := scopeB_ok hsc
    have all : AllOk prog w K mg base [] n := fun f en e => by simp at e
    refine FunD.okG F S (fun vs H Q E ⟨v, fp, r, c, e, _⟩ => by rw [e]; rfl) (fun cdv A outer s H vs Q E hr hgd h => ⟨_, PSs.nox (hp (xok_of (sp := false) all hmg S (dbgB_ok (by decide +kernel)) hr hgd (fun z => nomatch z)) ih hm F.kp hb), ?_⟩)
    obtain ⟨v, fp, r, c, rfl, q, hd, hb, hQ⟩ := h
    exact spoil_read q hd hb hQ
end
end TM

set_option Elab.async false
set_option linter.all false
set_option maxRecDepth 100000
set_option maxHeartbeats 8000000
namespace TM
open PySem PySem.Spec L2
open PyProof.Rows (envOfC)

/-! ### what a law's own text is put together by -/
theorem all_nil {α : Type} {p : α → Prop} : ∀ x ∈ ([] : List α), p x := fun _ h => nomatch h
theorem all_cons {α : Type} {p : α → Prop} {a : α} {l : List α} (h : p a) (hs : ∀ x ∈ l, p x) : ∀ x ∈ a :: l, p x := fun x hx => by
  rcases List.mem_cons.mp hx with e | e
  · rw [e]; exact h
  · exact hs x e
theorem vals_getD {vs : List V} {us : List Value} (r : Vals vs us) (i : Nat) : RelV (vs.getD i .non) (us.getD i .none) := by
  rw [List.getD_eq_getElem?_getD, List.getD_eq_getElem?_getD]
  cases e : vs[i]? with
  | none =>
    have : us[i]? = none := by
      rw [List.getElem?_eq_none_iff] at e ⊢
      rw [← r.length]; exact e
    rw [this]
    rfl
  | some v =>
    obtain ⟨u, h1, h2⟩ := r.get e
    rw [h1]
    exact h2
theorem vals_map {f : Nat → V} {g : Nat → Value} (h : ∀ i, RelV (f i) (g i)) : ∀ pm : List Nat, Vals (pm.map f) (pm.map g)
  | [] => .nil
  | i :: pm => .cons (h i) (vals_map h pm)
section
variable {prog : Program} {w : World} {K : PySem.W.Frag} {mg : Str → Option Value} {base : Heap} {P : List Ent} {k : Nat}
theorem kb_of {x qual : Str} {params : Arguments} {body : List Stmt} {scope : Scope} {f : Addr} {fd : FuncData} {ps ks : List Str} {np : Nat} {pm : List Nat} (F : FunD K x qual params body scope [] [] f fd) (hne : ps ≠ [])
    (h : ∀ (kV doc pm' : Value) (an : Option Addr) (cdv ct : Value) (us ws : List Value), us.length = np → ws.length = ks.length → bindArgs (PySem.W.fnOf x qual params body scope .none kV doc pm' an cdv ct) ⟨us, ks.zip ws⟩ = pure (ps.zip (pm.map fun i => (us ++ ws).getD i .none))) :
    KBinds K fd ps ks (kgU np ks pm) (kgV np ks pm) := by
  obtain ⟨oc, od, dV, kV, doc, pm', an, cdv, ct, osl, rfl, lk, hcd, hD, hK⟩ := F.ex
  rcases hD with ⟨_, rfl⟩ | ⟨e, _⟩
  · refine ⟨fun s us ws _ hl => ?_, fun {vs us zs ws} r rz => ?_⟩
    · unfold kgU at hl ⊢
      split at hl
      · rename_i q
        rw [if_pos q]
        exact .of_eq (h kV doc pm' an cdv ct us ws q.1 q.2)
      · exact absurd (List.length_eq_zero_iff.1 hl.symm) hne
    · unfold kgU kgV
      rw [r.length, rz.length]
      split
      · exact vals_map (fun i => vals_getD (r.append rz) i) pm
      · exact .nil
  · exact absurd rfl e
theorem room_law {k : Nat} (h : Nat.ble k 40 = true) : Room k callerA := by
  have := Nat.le_of_ble_eq_true h
  exact (show Room 40 callerA from ⟨rfl, by decide, by decide⟩).mono this
/-- THE LAW: all defs stand and are as the table says, its own text runs to True -/
theorem law_all {dL dS : DI} {sp : Bool} {ss : Ss} {rest : List Stmt} {p1 p2 p3 p4 p5 : Pos} {paL paS : Arguments} {f aS : Addr} {fd fdS : FuncData} (hmg : ∀ b ∈ bNames, mg b = none) (hst : ∀ (f : Nat) (en : Ent), P[f]? = some en → ∃ d, Stat K mg en d ∧ Good P en d)
    (FS : FunD K "_law_stream" "_law_stream" paS dS.body dS.scope [] [] aS fdS) (mS : mg "_law_stream" = some (.ref aS)) (bS : Binds K fdS strN []) (nS : dS.N = strN) (cS : scopeB strN strN dS.scope = true)
    (pS : ∀ {X : Cx} {rp : T → Str} {k : Nat}, XOkS X rp P k strN dS.scope.names false → PSs X dS.body (tStream X.K))
    (hsp : ∀ base : Heap, sp = true → 7 ≤ k + 1 ∧ SpoilOk prog w K mg base)
    (hb : dL.body = .Assign [.Name "stream" p1] (.Call (.Name "_law_stream" p2) [.Name "script" p3] [] p4) p5 :: rest)
    (hsc : scopeB dL.N ["script"] dL.scope = true) (hdb : dbgB dL.N = true) (hv : varB dL.N dL.scope.names 0 "script" = true) (hto : stoB dL.N dL.scope.names allTrueN 1 "stream" = true) (hg : glB dL.scope.names "_law_stream" = true)
    (hc : chkSs dL.N P dL.scope.names sp ss rest = true) (hrun : LawRun rpT P (k + 1) dL.N.length ss) (FL : FunD K "law" "law" paL dL.body dL.scope [] [] f fd) (base : Heap) :
    FnG prog w K mg base (k + 2) f fd ["script"] (spLaw K) := by
  have all : ∀ k, AllOk prog w K mg base P k := all_ok hmg hst
  exact law_step (dS := dS) (sp := sp) (all (k + 1)) hmg ⟨aS, fdS, stream_ok (all k) hmg nS cS pS FS, mS, FS.kp, bS⟩ hb hsc hdb hv hto hg (hsp base) hc hrun FL
end
end TM

set_option Elab.async false
set_option linter.all false
set_option maxRecDepth 100000
set_option maxHeartbeats 8000000
namespace TM
open PySem PySem.Spec L2

/-! ### a law whose turns each make the stream anew -/
/-- the frame as a turn begins: the script's address, the stream, the turn (its slot: tt) -/
def lawEnvF (ns tt : Nat) (a i : Nat) : TM.Env := (some ⟨.tok (a + 2), 2⟩ :: some ⟨.tok 1, 2⟩ :: List.replicate (ns - 2) none).set tt (some ⟨.int i, 2⟩)
def turnOk (ns a : Nat) : Out → Nat → Prop := fun o _ => match o with
  | .nx τ => τ.length = ns ∧ ∃ lv, τ[0]? = some (some ⟨.tok (a + 2), lv⟩)
  | .rt v => ∃ lv, v = ⟨.bl true, lv⟩
  | .bk _ => False
def LawRunF (rp : T → Str) (P : List Ent) (k ns tt n : Nat) (b e : Ss) : Prop :=
  (∀ a i : Nat, i < n → Sat (turnOk ns a) (fun _ _ _ => False) (evSs rp (run rp (fds P) k) b (lawEnvF ns tt a i)) BUD) ∧ Sat isTrueO (fun _ _ _ => False) (evSs rp (run rp (fds P) k) e (List.replicate ns none)) BUD
section
variable {prog : Program} {w : World} {K : PySem.W.Frag} {mg : Str → Option Value} {base : Heap} {P : List Ent} {k : Nat}
theorem sql_ext {K : PySem.W.Frag} {H H' : Hp} {a : Addr} {xs : List V} (h : SqL K H a xs) (e : ∀ o, H a = some o → H' a = some o) : SqL K H' a xs := by
  rcases h with h | h
  · rcases h with h | ⟨o, h⟩
    · exact .inl (.inl (e _ h))
    · exact .inl (.inr ⟨o, e _ h⟩)
  · exact .inr h
theorem rep_adr {G : Gb} {F : Fz} {H : Hp} {v : V} {a lv : Nat} {fp : List Addr} (r : RepV G F H v ⟨.tok (a + 2), lv⟩ fp) : v = .ref a := by
  have r := r.share
  cases r
  rfl
def spLawF (K : PySem.W.Frag) : Sp := fun vs H Q _ => ∃ (a : Addr) (ns : List Int), vs = [.ref a] ∧ ns.length ≤ 900 ∧ SqL K H a (ns.map V.int) ∧ ∀ H', Q (.bl true) H'
theorem law_stepF {d : DI} {dS : DI} {bd e : Ss} {rest tail : List Stmt} {n tt : Nat} {p1 p2 p3 p4 p5 q1 q2 q3 q4 q5 q6 q7 q8 q9 q10 : Pos} {k0 : Nat} (all : AllOk prog w K mg base P k) (hmg : ∀ b ∈ bNames, mg b = none)
    (hS : ∃ adr fdt, FnG prog w K mg base k adr fdt strN (spStream K) ∧ mg "_law_stream" = some (.ref adr) ∧ PySem.W.keepIn K (.ref adr) = true ∧ Binds K fdt strN [])
    (hb : d.body = .For (.Name "turn" q1) (.Call (.Name "range" q2) [.Constant (.int (n : Int)) k0 q3] [] q4)
      (.Assign [.Name "stream" p1] (.Call (.Name "_law_stream" p2) [.BinOp (.Call (.Name "list" q6) [.Name "script" p3] [] q7) .Add (.List [.Name "turn" q8] q9) q10] [] p4) p5 :: rest) [] q5 :: tail)
    (hn : n < 1000) (hsc : scopeB d.N ["script"] d.scope = true) (hdb : dbgB d.N = true) (hv : varB d.N d.scope.names 0 "script" = true) (hvt : varB d.N d.scope.names tt "turn" = true) (hst : stoB d.N d.scope.names allTrueN 1 "stream" = true) (hstt : stoB d.N d.scope.names allTrueN tt "turn" = true) (htt : 2 ≤ tt)
    (hg : glB d.scope.names "_law_stream" = true) (hgr : glB d.scope.names "range" = true) (hgl : glB d.scope.names "list" = true)
    {sp : Bool} (hsp : sp = true → 7 ≤ k ∧ SpoilOk prog w K mg base) (hc : chkSs d.N P d.scope.names sp bd rest = true) (hce : chkSs d.N P d.scope.names sp e tail = true) (hrun : LawRunF rpT P k d.N.length tt n bd e) {params : Arguments} {adr : Addr} {fdt : FuncData} (F : FunD K "law" "law" params d.body d.scope [] [] adr fdt) :
    FnG prog w K mg base (k + 1) adr fdt ["script"] (spLawF K) := by
  have S := scopeB_ok hsc
  obtain ⟨sa, sf, hF, h1, h2, h3⟩ := hS
  have htl : tt < d.N.length := by
    unfold varB at hvt
    rw [Bool.and_eq_true] at hvt
    have := atN_eq hvt.1
    obtain ⟨h, _⟩ := List.getElem?_eq_some_iff.1 this
    exact h
  refine FunD.okG F S (fun vs H Q E ⟨a, ns, e, _⟩ => by rw [e]; rfl) (fun cdv A outer s H vs Q E hr hgd h => ?_)
  have xo := xok_of (E := E) (s := s) (H := H) (outer := outer) all hmg S (dbgB_ok hdb) hr hgd hsp
  obtain ⟨g1, g2, g3⟩ := stoB_ok xo.toXOk (fun x _ => xo.fn x) hst
  obtain ⟨t1, t2, t3⟩ := stoB_ok xo.toXOk (fun x _ => xo.fn x) hstt
  have hv' : PE (cxOf CX0 prog w K mg base d.N "law" d.scope adr cdv A outer s H E).nox (.Name "script" p3) (tVar 0) := by
    unfold varB at hv
    rw [Bool.and_eq_true] at hv
    obtain ⟨d1, d2⟩ := xo.dbgAt hv.1
    exact pe_var (xo.at hv.1) (xo.vis hv.2) d1 d2
  have ht' : PE (cxOf CX0 prog w K mg base d.N "law" d.scope adr cdv A outer s H E).nox (.Name "turn" q8) (tVar tt) := by
    unfold varB at hvt
    rw [Bool.and_eq_true] at hvt
    obtain ⟨d1, d2⟩ := xo.dbgAt hvt.1
    exact pe_var (xo.at hvt.1) (xo.vis hvt.2) d1 d2
  have hcat := pe_op (pos := q10) op_cat (pe_callTy (p := q6) (pos := q7) call_list_of (xo.gl hgl) (xo.mg _ (by decide +kernel)) (by decide +kernel) (pa_cons hv' pa_nil) (by decide) (by decide) rfl rfl) (pe_lst (pos := q9) (pa_cons ht' pa_nil))
  refine ⟨_, PSs.nox (by rw [hb]; exact pss_cons (ps_for xo.hp xo.calm (pi_range1 (xo.gl hgr) (xo.mg _ (by decide +kernel)) (pa_cons pe_int pa_nil)) (pg_name xo.ndX t1 t2 t3)
    (pss_cons (ps_set xo.ndX g1 g2 (pe_callG (E := fun _ _ _ => False) hF xo.room xo.gd (xo.gl hg) h1 h2 h3 (pa_cons hcat pa_nil) (by decide +kernel) rfl rfl) rfl g3) (okSs bd xo hc))) (okSs e xo hce)), ?_⟩
  obtain ⟨a, ns, rfl, hns, hSq, hQ⟩ := h
  obtain ⟨hr1, hr2⟩ := hrun
  refine ⟨(n : Int), rfl, by omega, by omega, ?_⟩
  rw [Int.toNat_natCast]
  have hN : 2 ≤ d.N.length := by omega
  refine for_range (lo := 0) (n := n) (fun i σ H => σ.length = d.N.length ∧ σ[0]? = some (some (.ref a)) ∧ SqL K H a (ns.map V.int)) ⟨?_, start_get rfl, hSq⟩ (fun i σ H hi ⟨l1, l2, l3⟩ => ?_) (fun σ H ⟨l1, l2, l3⟩ => ?_)
  · unfold L2.start
    rw [List.length_append, List.length_map, List.length_replicate]
    show 1 + (d.N.length - 1) = _
    omega
  · have q0 : (σ.set tt (some (V.int (0 + (i : Int)))))[0]? = some (some (V.ref a)) := by
      rw [List.getElem?_set_ne (by omega)]
      exact l2
    have qt : (σ.set tt (some (V.int (0 + (i : Int)))))[tt]? = some (some (V.int (0 + (i : Int)))) := List.getElem?_set_self (by omega)
    have ql : (σ.set tt (some (V.int (0 + (i : Int))))).length = d.N.length := by rw [List.length_set]; exact l1
    show gName tt (V.int (0 + (i : Int))) σ H _
    unfold gName
    generalize hσ : σ.set tt (some (V.int (0 + (i : Int)))) = σ2 at q0 qt ql
    refine ⟨.ref a, q0, a, ns.map V.int, rfl, .inl l3, fun x1 hx1 => ?_⟩
    refine ⟨_, qt, by show 1 ≤ sizeLine; decide, fun x2 hx2 => ?_⟩
    have n12 : x1 ≠ x2 := by
      rintro rfl
      rw [upd_same] at hx2; cases hx2
    refine ⟨x1, x2, ns.map V.int, [V.int (0 + (i : Int))], rfl, rfl, by rw [upd_ne n12, upd_same], upd_same, by rw [List.length_map]; show ns.length + 1 ≤ sizeLine; rw [sizeLine_eq]; omega, fun x3 hx3 => ?_⟩
    refine ⟨x3, ns ++ [0 + (i : Int)], rfl, SqL.of (by rw [upd_same, List.map_append]; rfl), fun l st hl hsl hs => ?_⟩
    have ext : ∀ o, H a = some o → (upd (upd (upd (upd (upd H x1 (.lst (ns.map V.int))) x2 (.lst [V.int (0 + (i : Int))])) x3 (.lst (ns.map V.int ++ [V.int (0 + (i : Int))]))) l (.lst ((ns ++ [0 + (i : Int)]).map V.int))) st (.lst [.ref l, .int 0, .int 0, .int 19])) a = some o ∧ a ≠ st ∧ a ≠ l := fun o e => by
      have e1 : (upd H x1 (.lst (ns.map V.int))) a = some o := by rw [upd_ne (ne_of_none e hx1)]; exact e
      have e2 : (upd (upd H x1 (.lst (ns.map V.int))) x2 (.lst [V.int (0 + (i : Int))])) a = some o := by rw [upd_ne (ne_of_none e1 hx2)]; exact e1
      have e3 : (upd (upd (upd H x1 (.lst (ns.map V.int))) x2 (.lst [V.int (0 + (i : Int))])) x3 (.lst (ns.map V.int ++ [V.int (0 + (i : Int))]))) a = some o := by rw [upd_ne (ne_of_none e2 hx3)]; exact e2
      have nl := ne_of_none e3 hl
      have ns' := ne_of_none e3 hs
      exact ⟨by rw [upd_ne ns', upd_ne nl]; exact e3, ns', nl⟩
    generalize hH : upd (upd (upd (upd (upd H x1 (.lst (ns.map V.int))) x2 (.lst [V.int (0 + (i : Int))])) x3 (.lst (ns.map V.int ++ [V.int (0 + (i : Int))]))) l (.lst ((ns ++ [0 + (i : Int)]).map V.int))) st (.lst [.ref l, .int 0, .int 0, .int 19]) = H1 at ext
    have inv : SInv (some (st, l)) BUD H1 := by
      subst hH
      exact ⟨hsl, ns ++ [0 + (i : Int)], 0, 0, 19, upd_same, by rw [upd_ne hsl.symm, upd_same], by rw [List.length_append]; show ns.length + 1 ≤ 1000; omega, by decide, by decide, by decide, by decide, by decide⟩
    have hsat := hr1 a i hi
    show tSs rpT (run rpT (fds P) k) W0 bd _ (σ2.set 1 (some (.ref st))) H1
    refine ⟨some (st, l), fun _ => False, H1, BUD, fun _ => False, lawEnvF d.N.length tt a i, BUD, fun _ => [], inv, fun a f => f.elim, ?_, ?_⟩
    · refine ⟨Stp.refl (fun a f => f.elim) inv, ?_, fun j u e => ?_, fun _ _ => rfl, fun _ => ⟨List.nodup_nil, fun _ k => nomatch k⟩, fun _ _ _ k => nomatch k⟩
      · rw [List.length_set, ql]
        unfold lawEnvF
        rw [List.length_set, List.length_cons, List.length_cons, List.length_replicate]
        omega
      · unfold lawEnvF at e
        by_cases hj : tt = j
        · subst hj
          rw [List.getElem?_set_self (by rw [List.length_cons, List.length_cons, List.length_replicate]; omega)] at e
          cases e
          refine ⟨.int (0 + (i : Int)), by rw [List.getElem?_set_ne (by omega)]; exact qt, ?_⟩
          rw [Int.zero_add]
          exact RepD.sh rfl (.int _)
        · rw [List.getElem?_set_ne hj] at e
          match j, e with
          | 0, e =>
            cases e
            exact ⟨.ref a, by rw [List.getElem?_set_ne (by decide)]; exact q0, RepD.sh rfl .adr⟩
          | 1, e =>
            cases e
            exact ⟨.ref st, List.getElem?_set_self (by omega), RepD.sh rfl (.tok rfl)⟩
          | j + 2, e =>
            have e : (List.replicate (d.N.length - 2) none)[j]? = some (some u) := e
            rw [List.getElem?_replicate] at e
            split at e <;> cases e
    · refine hsat.imp (fun o b' ho => ?_) fun _ _ _ z => z.elim
      cases o with
      | nx τ' =>
        obtain ⟨ho1, lv, ho2⟩ := ho
        intro σ' H' F' fps' S' _
        refine ⟨by rw [← S'.len]; exact ho1, ?_, sql_ext l3 fun o e => ?_⟩
        · obtain ⟨v, hv, rv⟩ := S'.vw 0 _ ho2
          rw [hv, rep_adr rv]
        · obtain ⟨e1, e2, e3⟩ := ext o e
          exact S'.stp.ext a o e1 fun z => z.elim e2 e3
      | bk τ' => exact ho.elim
      | rt v =>
        obtain ⟨lv, rfl⟩ := ho
        exact fun v H' F' fp _ r _ => by rw [bool_of r]; exact hQ H'
  · show tSs rpT (run rpT (fds P) k) W0 e _ σ H
    refine ⟨none, fun _ => False, H, BUD, fun _ => False, List.replicate d.N.length none, BUD, fun _ => [], trivial, fun a f => f.elim, ?_, ?_⟩
    · refine ⟨Stp.refl (fun a f => f.elim) trivial, ?_, fun j u e => ?_, fun _ _ => rfl, fun _ => ⟨List.nodup_nil, fun _ k => nomatch k⟩, fun _ _ _ k => nomatch k⟩
      · rw [List.length_replicate, l1]
      · rw [List.getElem?_replicate] at e
        split at e <;> cases e
    · refine hr2.imp (fun o b' ⟨lv, ho⟩ => ?_) fun _ _ _ z => z.elim
      subst ho
      exact fun v H' F' fp _ r _ => by rw [bool_of r]; exact hQ H'
/-- the whole law -/
theorem law_allF {dL dS : DI} {sp : Bool} {bd e : Ss} {rest tail : List Stmt} {n tt : Nat} {p1 p2 p3 p4 p5 q1 q2 q3 q4 q5 q6 q7 q8 q9 q10 : Pos} {k0 : Nat} {paL paS : Arguments} {f aS : Addr} {fd fdS : FuncData} (hmg : ∀ b ∈ bNames, mg b = none) (hst : ∀ (f : Nat) (en : Ent), P[f]? = some en → ∃ d, Stat K mg en d ∧ Good P en d)
    (FS : FunD K "_law_stream" "_law_stream" paS dS.body dS.scope [] [] aS fdS) (mS : mg "_law_stream" = some (.ref aS)) (bS : Binds K fdS strN []) (nS : dS.N = strN) (cS : scopeB strN strN dS.scope = true)
    (pS : ∀ {X : Cx} {rp : T → Str} {k : Nat}, XOkS X rp P k strN dS.scope.names false → PSs X dS.body (tStream X.K))
    (hsp : ∀ base : Heap, sp = true → 7 ≤ k + 1 ∧ SpoilOk prog w K mg base)
    (hb : dL.body = .For (.Name "turn" q1) (.Call (.Name "range" q2) [.Constant (.int (n : Int)) k0 q3] [] q4)
      (.Assign [.Name "stream" p1] (.Call (.Name "_law_stream" p2) [.BinOp (.Call (.Name "list" q6) [.Name "script" p3] [] q7) .Add (.List [.Name "turn" q8] q9) q10] [] p4) p5 :: rest) [] q5 :: tail)
    (hn : n < 1000) (hsc : scopeB dL.N ["script"] dL.scope = true) (hdb : dbgB dL.N = true) (hv : varB dL.N dL.scope.names 0 "script" = true) (hvt : varB dL.N dL.scope.names tt "turn" = true) (hto : stoB dL.N dL.scope.names allTrueN 1 "stream" = true) (hstt : stoB dL.N dL.scope.names allTrueN tt "turn" = true) (htt : 2 ≤ tt)
    (hg : glB dL.scope.names "_law_stream" = true) (hgr : glB dL.scope.names "range" = true) (hgl : glB dL.scope.names "list" = true)
    (hc : chkSs dL.N P dL.scope.names sp bd rest = true) (hce : chkSs dL.N P dL.scope.names sp e tail = true) (hrun : LawRunF rpT P (k + 1) dL.N.length tt n bd e) (FL : FunD K "law" "law" paL dL.body dL.scope [] [] f fd) (base : Heap) :
    FnG prog w K mg base (k + 2) f fd ["script"] (spLawF K) := by
  have all : ∀ k, AllOk prog w K mg base P k := all_ok hmg hst
  exact law_stepF (dS := dS) (sp := sp) (all (k + 1)) hmg ⟨aS, fdS, stream_ok (all k) hmg nS cS pS FS, mS, FS.kp, bS⟩ hb hn hsc hdb hv hvt hto hstt htt hg hgr hgl (hsp base) hc hce hrun FL
end
end TM

set_option Elab.async false
set_option linter.all false
set_option maxRecDepth 10000
set_option maxHeartbeats 400000
namespace TM
open PySem
def cpsOk (s : Str) : Prop := ∀ c ∈ s.cps.toList, c < 0x110000
theorem cpsOk_of (s : String) : cpsOk (Str.ofString s) := by
  intro c hc
  rw [Str.ofString_eq_toList] at hc
  have hc : c ∈ s.toList.map Char.toNat := by simpa using hc
  obtain ⟨d, _, rfl⟩ := List.mem_map.mp hc
  have h := d.valid
  simp only [UInt32.isValidChar, Nat.isValidChar] at h
  show d.val.toNat < _
  omega
theorem cpsOk_app {a b : Str} (ha : cpsOk a) (hb : cpsOk b) : cpsOk (a ++ b) := by
  intro c hc
  have hc : c ∈ (a.cps ++ b.cps).toList := hc
  rw [Array.toList_append, List.mem_append] at hc
  exact hc.elim (ha c) (hb c)
theorem cpsOk_from : ∀ (ts : List Str) (k : Nat) (acc : Str), cpsOk acc → (∀ t ∈ ts, cpsOk t) → cpsOk (textFrom k acc ts)
  | [], _, _, h, _ => h
  | t :: ts, k, acc, h, ht => cpsOk_from ts (k + 1) _ (cpsOk_app (cpsOk_app h (cpsOk_of _)) (ht t List.mem_cons_self)) fun u hu => ht u (List.mem_cons_of_mem _ hu)
theorem cpsOk_join {s : Str} (hs : cpsOk s) : ∀ (ts : List Str), (∀ t ∈ ts, cpsOk t) → cpsOk (Str.join s ts)
  | [], _ => fun c hc => by cases hc
  | [x], h => h x List.mem_cons_self
  | x :: y :: r, h => cpsOk_app (cpsOk_app (h x List.mem_cons_self) hs) (cpsOk_join hs (y :: r) fun u hu => h u (List.mem_cons_of_mem _ hu))
mutual
def noS : PyData → Bool
  | .none => true
  | .bool _ => true
  | .int _ => true
  | .str _ => false
  | .list xs => noSs xs
  | .tuple xs => noSs xs
  | .dict _ => false
def noSs : List PyData → Bool
  | [] => true
  | x :: xs => noS x && noSs xs
end
mutual
theorem cpsOk_shown : ∀ {d : PyData}, noS d = true → cpsOk d.shown
  | .none, _ => cpsOk_of _
  | .bool true, _ => cpsOk_of _
  | .bool false, _ => cpsOk_of _
  | .int i, _ => cpsOk_of _
  | .str _, h => by cases h
  | .list xs, h => cpsOk_app (cpsOk_from _ _ _ (cpsOk_of _) (cpsOk_showns h)) (cpsOk_of _)
  | .tuple xs, h => cpsOk_app (cpsOk_app (cpsOk_of _) (cpsOk_join (cpsOk_of _) _ (cpsOk_showns h))) (cpsOk_of _)
  | .dict _, h => by cases h
theorem cpsOk_showns : ∀ {ds : List PyData}, noSs ds = true → ∀ t ∈ PyData.shownAll ds, cpsOk t
  | [], _, t, ht => by cases ht
  | d :: ds, h, t, ht => by
    have h : (noS d && noSs ds) = true := h
    rw [Bool.and_eq_true] at h
    rcases List.mem_cons.mp (show t ∈ d.shown :: PyData.shownAll ds from ht) with e | e
    · rw [e]; exact cpsOk_shown h.1
    · exact cpsOk_showns h.2 t e
end
end TM

set_option Elab.async false
set_option linter.all false
set_option maxRecDepth 100000
set_option maxHeartbeats 4000000
namespace TM
open PySem

/-! ### the plain calculus: how a law's run is followed -/
section
variable {α β : Type} {Q : α → Nat → Prop} {E : Nat → T → Nat → Prop} {b : Nat}
theorem sat_of_ok {r : R α} {a : α} (h : r = .ok a) (q : Q a b) : Sat Q E r b := by rw [h]; exact q
theorem sat_seq {r : R β} {f : β → R α} (h : Sat (fun a b' => Sat Q E (f a) b') E r b) : Sat Q E (r >>= f) b := (sat_bind _ _).2 h
theorem sat_let {r : R β} {a : β} {f : β → R α} (h : r = .ok a) (q : Sat Q E (f a) b) : Sat Q E (r >>= f) b := by rw [h]; exact q
theorem sat_noexc' : ∀ {r : R α} {b : Nat}, Sat Q (fun _ _ _ => False) r b → Sat Q E r.noexc b
  | .ok _, _, h => h
  | .draw _ _, _, ⟨h1, h2, h3⟩ => ⟨h1, h2, fun i hi => sat_noexc' (h3 i hi)⟩
  | .exc _ _, _, h => h.elim
  | .stuck, _, h => h
end
section
variable {E : Nat → T → Nat → Prop} {rp : T → Str} {P : List Fd} {k b : Nat}
theorem sat_draw0 {Q : Val → Nat → Prop} {f : Nat} (hP : P[f]? = some .draw) {n : Int} (h0 : 0 < n) (h1 : n < 1073741824) (hb : 0 < b) (h : ∀ i : Int, 0 ≤ i → i < n → Q ⟨.int i, 2⟩ (b - 1)) : Sat Q E (run rp P (k + 1) f [.tok 1, .int n]) b := by
  have e : run rp P (k + 1) f [.tok 1, .int n] = (if 0 < n ∧ n < 1073741824 then R.draw n.toNat fun i => .ok ⟨.int i, 2⟩ else .stuck) := by
    unfold run
    rw [hP]
    rfl
  rw [e, if_pos ⟨h0, h1⟩]
  refine ⟨by omega, hb, fun i hi => h i (by omega) (by omega)⟩
theorem sat_for {Q : Out → Nat → Prop} {step : T → Env → R Out} (I : Nat → Env → Nat → Prop) : ∀ {xs : List T} {τ : Env} {b : Nat},
    (∀ i x τ b, xs[i]? = some x → I i τ b → Sat (fun o b' => match o with | .nx τ' => I (i + 1) τ' b' | .bk τ' => Q (.nx τ') b' | .rt v => Q (.rt v) b') E (step x τ) b) → I 0 τ b → (∀ τ b, I xs.length τ b → Q (.nx τ) b) → Sat Q E (forT step xs τ) b
  | [], τ, b, _, h0, hd => hd τ b h0
  | x :: xs, τ, b, hs, h0, hd => by
    show Sat Q E (step x τ >>= fun o => match o with | .nx τ' => forT step xs τ' | .bk τ' => R.ok (.nx τ') | .rt v => R.ok (.rt v)) b
    refine sat_seq ((hs 0 x τ b rfl h0).imp (fun o b' ho => ?_) fun _ _ _ z => z)
    cases o with
    | nx τ' => exact sat_for (fun i => I (i + 1)) (fun i y τ b hy hi => hs (i + 1) y τ b (by simpa using hy) hi) ho hd
    | bk τ' => exact ho
    | rt v => exact ho
/-- a search: each turn either finds or goes on -/
theorem forT_find {step : T → Env → R Out} (J : Env → Prop) (g : T → Option Val) : ∀ {xs : List T} {τ : Env}, (∀ x ∈ xs, ∀ τ, J τ → (∃ v, g x = some v ∧ step x τ = .ok (.rt v)) ∨ (g x = none ∧ ∃ τ', J τ' ∧ step x τ = .ok (.nx τ'))) → J τ →
    (∃ v, xs.findSome? g = some v ∧ forT step xs τ = .ok (.rt v)) ∨ (xs.findSome? g = none ∧ ∃ τ', J τ' ∧ forT step xs τ = .ok (.nx τ'))
  | [], τ, _, h0 => .inr ⟨rfl, τ, h0, rfl⟩
  | x :: xs, τ, hs, h0 => by
    have e : forT step (x :: xs) τ = (step x τ >>= fun o => match o with | .nx τ' => forT step xs τ' | .bk τ' => R.ok (.nx τ') | .rt v => R.ok (.rt v)) := rfl
    rcases hs x List.mem_cons_self τ h0 with ⟨v, h1, h2⟩ | ⟨h1, τ', h2, h3⟩
    · refine .inl ⟨v, by rw [List.findSome?_cons, h1], ?_⟩
      rw [e, h2]; rfl
    · rw [List.findSome?_cons, h1]
      rw [e, h3]
      exact forT_find J g (fun y hy => hs y (List.mem_cons_of_mem _ hy)) h2
theorem lcT_pure {step : T → R (Option Val)} {g : T → Option Val} : ∀ {xs : List T} {n : Nat}, (∀ x ∈ xs, step x = .ok (g x)) → xs.length + n ≤ LINE → lcT step xs n = .ok (xs.filterMap g)
  | [], _, _, _ => rfl
  | x :: xs, n, h, hl => by
    have hl : xs.length + 1 + n ≤ LINE := hl
    have e : lcT step (x :: xs) n = (step x >>= fun o => match o with | some v => if Nat.blt n LINE then (do let r ← lcT step xs (n + 1); R.ok (v :: r)) else .stuck | none => lcT step xs n) := rfl
    rw [e, h x List.mem_cons_self]
    cases hg : g x with
    | none =>
      rw [List.filterMap_cons, hg]
      exact lcT_pure (fun y hy => h y (List.mem_cons_of_mem _ hy)) (by omega)
    | some v =>
      rw [List.filterMap_cons, hg]
      show (if Nat.blt n LINE = true then (lcT step xs (n + 1) >>= fun r => R.ok (v :: r)) else R.stuck) = _
      rw [if_pos (by rw [Nat.blt_eq]; omega), lcT_pure (g := g) (fun y hy => h y (List.mem_cons_of_mem _ hy)) (by omega)]
      rfl
/-- with draws: each part of a kind, the budget sinks by at most c a turn -/
theorem sat_lcT {Q : List Val → Nat → Prop} {step : T → R (Option Val)} {p : Val → Prop} (c : Nat) : ∀ {xs : List T} {n b : Nat}, (∀ x ∈ xs, ∀ b, c ≤ b → Sat (fun o b' => (∃ v, o = some v ∧ p v) ∧ b ≤ b' + c) E (step x) b) → xs.length + n ≤ LINE → xs.length * c ≤ b →
    (∀ vs b', vs.length = xs.length → (∀ v ∈ vs, p v) → b ≤ b' + xs.length * c → Q vs b') → Sat Q E (lcT step xs n) b
  | [], _, b, _, _, _, hQ => hQ [] b rfl (fun _ k => nomatch k) (by simp)
  | x :: xs, n, b, hs, hl, hb, hQ => by
    have hl : xs.length + 1 + n ≤ LINE := hl
    have hb : (xs.length + 1) * c ≤ b := hb
    rw [Nat.succ_mul] at hb
    show Sat Q E (step x >>= fun o => match o with | some v => if Nat.blt n LINE then (do let r ← lcT step xs (n + 1); R.ok (v :: r)) else .stuck | none => lcT step xs n) b
    refine sat_seq ((hs x List.mem_cons_self b (by omega)).imp (fun o b1 ⟨⟨v, e, hv⟩, h1⟩ => ?_) fun _ _ _ z => z)
    subst e
    show Sat Q E (if Nat.blt n LINE = true then (lcT step xs (n + 1) >>= fun r => R.ok (v :: r)) else R.stuck) b1
    rw [if_pos (by rw [Nat.blt_eq]; omega)]
    refine sat_seq (sat_lcT c (fun y hy => hs y (List.mem_cons_of_mem _ hy)) (by omega) (by omega) fun vs b' h2 h3 h4 => hQ (v :: vs) b' (congrArg Nat.succ h2) (fun u hu => ?_) ?_)
    · rcases List.mem_cons.mp hu with e | e
      · rw [e]; exact hv
      · exact h3 u e
    · show b ≤ b' + (xs.length + 1) * c
      rw [Nat.succ_mul]
      omega
/-- while, by fuel -/
theorem sat_whl {Q : Out → Nat → Prop} {c : Env → R Bool} {step : Env → R Out} (I : Nat → Env → Nat → Prop) (hs : ∀ m τ b, I m τ b → Sat (fun r b' => match r with | true => Sat (fun o b2 => match o with | .nx τ' => ∃ m', m' < m ∧ I m' τ' b2 | .bk τ' => Q (.nx τ') b2 | .rt v => Q (.rt v) b2) E (step τ) b' | false => Q (.nx τ) b') E (c τ) b) :
    ∀ {n m : Nat} {τ : Env} {b : Nat}, m < n → I m τ b → Sat Q E (whlT c step n τ) b
  | 0, m, _, _, h, _ => absurd h (Nat.not_lt_zero m)
  | n + 1, m, τ, b, h, h0 => by
    show Sat Q E (c τ >>= fun r => match r with | false => R.ok (.nx τ) | true => (step τ >>= fun o => match o with | .nx τ' => whlT c step n τ' | .bk τ' => R.ok (.nx τ') | .rt v => R.ok (.rt v))) b
    refine sat_seq ((hs m τ b h0).imp (fun r b1 hr => ?_) fun _ _ _ z => z)
    cases r with
    | false => exact hr
    | true =>
      refine sat_seq (hr.imp (fun o b2 ho => ?_) fun _ _ _ z => z)
      cases o with
      | nx τ' =>
        obtain ⟨m', h1, h2⟩ := ho
        exact sat_whl I hs (by omega) h2
      | bk τ' => exact ho
      | rt v => exact ho
/-! evaluation, step by step (for simp) -/
theorem ok_bind {α β : Type} (a : α) (f : α → R β) : (R.ok a >>= f) = f a := rfl
theorem pure_ok {α : Type} (a : α) : (pure a : R α) = R.ok a := rfl
theorem run_fn {np ns f : Nat} {bd : Ss} {as : List T} (hP : P[f]? = some (.fn np ns bd)) (hl : as.length = np) :
    run rp P (k + 1) f as = (evSs rp (run rp P k) bd (as.map (fun t => some t.rd) ++ List.replicate (ns - np) none) >>= fun o => match o with | .rt v => R.ok v | .nx _ => R.ok ⟨.non, 2⟩ | .bk _ => R.stuck) := by
  unfold run
  rw [hP]
  dsimp only
  exact (if_pos hl).trans rfl
section
variable {rp : T → Str} {call : Nat → List T → R Val} {s : S} {ss : Ss} {τ τ' : Env} {v : Val}
theorem evSs_nx (h : evS rp call s τ = .ok (.nx τ')) : evSs rp call (.cons s ss) τ = evSs rp call ss τ' := by
  simp only [evSs]
  rw [h]; rfl
theorem evSs_rt (h : evS rp call s τ = .ok (.rt v)) : evSs rp call (.cons s ss) τ = .ok (.rt v) := by
  simp only [evSs]
  rw [h]; rfl
theorem evS_forr {tg : Tg} {it : It} {bd : Ss} {xs : List T} (h : evI rp call it τ = .ok xs) : evS rp call (.forr tg it bd) τ = forT (fun x τ => setTg tg x.rd τ >>= fun τ' => evSs rp call bd τ') xs τ := by
  show (evI rp call it τ >>= fun xs => forT (fun x τ => setTg tg x.rd τ >>= fun τ' => evSs rp call bd τ') xs τ) = _
  rw [h]; rfl
end
end
section
variable {rp : T → Str} {call : Nat → List T → R Val} {τ : Env}
theorem evCs_one {c : E} {b : Bool} {l : Nat} (h : evE rp call c τ = .ok ⟨.bl b, l⟩) : evCs rp call (.cons c .nil) τ = .ok b := by
  simp only [evCs]
  rw [h]
  cases b <;> rfl
theorem evE_lc {elt : E} {tg : Tg} {it : It} {cs : Es} {own : List Nat} {xs : List T} {g : T → Option Val} (hi : evI rp call it τ = .ok xs) (hl : xs.length ≤ LINE)
    (hs : ∀ x ∈ xs, ∃ τ', setTg tg x.rd (wipes own τ) = .ok τ' ∧ ((g x = none ∧ evCs rp call cs τ' = .ok false) ∨ ∃ v, g x = some v ∧ evCs rp call cs τ' = .ok true ∧ evE rp call elt τ' = .ok v)) :
    evE rp call (.lc elt tg it cs own) τ = mkList (xs.filterMap g) := by
  simp only [evE]
  rw [hi, ok_bind]
  rw [lcT_pure (g := g) (fun x hx => ?_) (by omega)]
  · rfl
  · obtain ⟨τ', h1, h2⟩ := hs x hx
    rw [h1, ok_bind]
    rcases h2 with ⟨h3, h4⟩ | ⟨v, h3, h4, h5⟩
    · rw [h4, h3]; rfl
    · rw [h4, h3]
      show (evE rp call elt τ' >>= fun v => R.ok (some v)) = _
      rw [h5]; rfl
theorem mkList_ints (ns : List Int) (h : ns.length ≤ LINE) : mkList (ns.map fun i => (⟨.int i, 2⟩ : Val)) = .ok ⟨.lst (ns.map .int), 2⟩ := by
  have h1 : all2 (ns.map fun i => (⟨.int i, 2⟩ : Val)) = true := by
    unfold all2
    rw [List.all_map]
    exact List.all_eq_true.2 fun _ _ => rfl
  unfold mkList
  rw [if_pos (by rw [List.length_map]; exact Nat.ble_eq_true_of_le h), h1]
  show R.ok (⟨.lst ((ns.map fun i => (⟨.int i, 2⟩ : Val)).map (·.t)), 2⟩ : Val) = _
  rw [List.map_map]; rfl
end
section
variable {rp : T → Str} {call : Nat → List T → R Val} {τ : Env}
theorem evS_asg {e : E} {i : Nat} {fz : List Nat} {v : Val} (h : evE rp call e (hide fz τ) = .ok v) (h2 : v.lv = 2) : evS rp call (.asg (.nm i) e fz) τ = .ok (.nx (τ.set i (some v))) := by
  simp only [evS]
  rw [h, ok_bind]
  show (setTg (.nm i) v (after fz v τ) >>= fun τ' => R.ok (Out.nx τ')) = _
  unfold after
  rw [if_pos h2]; rfl
theorem evS_iff {c : E} {a b : Ss} {r : Bool} {l : Nat} (h : evE rp call c τ = .ok ⟨.bl r, l⟩) : evS rp call (.iff c a b) τ = if r then evSs rp call a τ else evSs rp call b τ := by
  simp only [evS]
  rw [h, ok_bind]
  cases r <;> rfl
theorem atI_last {α : Type} (xs : List α) : L2.atI xs (-1) = xs.getLast? := by
  unfold L2.atI L2.ixN
  cases xs with
  | nil => rfl
  | cons x xs =>
    rw [if_neg (by decide), if_pos (by simp; omega)]
    have : ((-1 : Int) + ((x :: xs).length : Int)).toNat = (x :: xs).length - 1 := by simp; omega
    rw [Option.bind_some, this, List.getLast?_eq_getElem?]
theorem ne_nil_ints {n : Nat} {ns : List Int} {i : Nat} {l : Nat} (h : τ[i]? = some (some ⟨.lst (ns.map .int), l⟩)) : evE rp call (.cmp .ne (.var i) (.lst .nil)) τ = .ok ⟨.bl (!ns.isEmpty), 2⟩ := by
  simp only [evE, evEs]
  rw [h]
  show (cmpT .ne (.lst (ns.map .int)) (.lst []) >>= fun r => mk2 (.bl r)) = _
  show ((eqT (.lst (ns.map .int)) (.lst []) >>= fun r => R.ok !r) >>= fun r => mk2 (.bl r)) = _
  unfold eqT
  rw [eqok_ints, show (T.lst []).eqok = true from rfl]
  cases ns <;> rfl
end
def hid1 (fz : List Nat) (i : Nat) : Option Val → Option Val
  | some v => if Nat.beq v.lv 0 || (v.t.nomut || fz.elem i) then some v else none
  | none => none
theorem hideFrom_cons (fz : List Nat) (i : Nat) (o : Option Val) (τ : Env) : hideFrom fz i (o :: τ) = hid1 fz i o :: hideFrom fz (i + 1) τ := by cases o <;> rfl
theorem hid1_in {fz : List Nat} {i : Nat} {v : Val} (h : fz.elem i = true) : hid1 fz i (some v) = some v := by
  show (if _ then _ else _) = _
  rw [if_pos (by rw [h, Bool.or_true, Bool.or_true])]
/-- a loop that never leaves: f i is the frame behind i turns -/
theorem forT_run {step : T → Env → R Out} : ∀ {xs : List T} (f : Nat → Env), (∀ i x, xs[i]? = some x → step x (f i) = .ok (.nx (f (i + 1)))) → forT step xs (f 0) = .ok (.nx (f xs.length))
  | [], f, _ => rfl
  | x :: xs, f, h => by
    show (step x (f 0) >>= fun o => match o with | .nx τ' => forT step xs τ' | .bk τ' => R.ok (.nx τ') | .rt v => R.ok (.rt v)) = _
    rw [h 0 x rfl]
    exact forT_run (fun i => f (i + 1)) fun i y hy => h (i + 1) y (by simpa using hy)
end TM

set_option Elab.async false
set_option linter.all false
set_option maxRecDepth 10000
set_option maxHeartbeats 400000
namespace TM
open PySem

theorem hideFrom_at {fz : List Nat} : ∀ {τ : Env} {j i : Nat} {v : Val}, τ[i]? = some (some v) → fz.elem (j + i) = true → (hideFrom fz j τ)[i]? = some (some v)
  | [], _, _, _, h, _ => by cases h
  | o :: τ, j, 0, v, h, hf => by
    rw [hideFrom_cons]
    have h : some o = some (some v) := h
    cases h
    show some (hid1 fz j (some v)) = _
    rw [hid1_in (i := j) hf]
  | o :: τ, j, i + 1, v, h, hf => by
    rw [hideFrom_cons]
    exact hideFrom_at (τ := τ) (j := j + 1) (i := i) h (by rw [show j + 1 + i = j + (i + 1) by omega]; exact hf)
theorem hide_in {fz : List Nat} {τ : Env} {i : Nat} {v : Val} (h : τ[i]? = some (some v)) (hf : fz.elem i = true) : (hide fz τ)[i]? = some (some v) := hideFrom_at h (by rw [Nat.zero_add]; exact hf)

/-- all ways out, as a word that is never unfolded -/
structure SAT {α : Type} (Q : α → Nat → Prop) (E : Nat → T → Nat → Prop) (r : R α) (b : Nat) : Prop where
  h : Sat Q E r b
theorem SAT.imp {α : Type} {Q Q' : α → Nat → Prop} {E : Nat → T → Nat → Prop} {r : R α} {b : Nat} (h : SAT Q E r b) (hQ : ∀ a b, Q a b → Q' a b) : SAT Q' E r b := ⟨h.h.imp hQ fun _ _ _ z => z⟩
theorem s_seq {α β : Type} {Q : α → Nat → Prop} {E : Nat → T → Nat → Prop} {b : Nat} {r : R β} {f : β → R α} (h : SAT (fun a b' => SAT Q E (f a) b') E r b) : SAT Q E (r >>= f) b := ⟨sat_seq (h.h.imp (fun _ _ z => z.h) fun _ _ _ z => z)⟩
theorem s_ok {α : Type} {Q : α → Nat → Prop} {E : Nat → T → Nat → Prop} {b : Nat} {r : R α} {a : α} (h : r = .ok a) (q : Q a b) : SAT Q E r b := ⟨by rw [h]; exact q⟩
theorem s_let {α β : Type} {Q : α → Nat → Prop} {E : Nat → T → Nat → Prop} {b : Nat} {r : R β} {a : β} {f : β → R α} (h : r = .ok a) (q : SAT Q E (f a) b) : SAT Q E (r >>= f) b := by rw [h]; exact q
theorem s_for {Q : Out → Nat → Prop} {E : Nat → T → Nat → Prop} {step : T → Env → R Out} (I : Nat → Env → Nat → Prop) {xs : List T} {τ : Env} {b : Nat}
    (hs : ∀ i x τ b, xs[i]? = some x → I i τ b → SAT (fun o b' => match o with | .nx τ' => I (i + 1) τ' b' | .bk τ' => Q (.nx τ') b' | .rt v => Q (.rt v) b') E (step x τ) b) (h0 : I 0 τ b) (hd : ∀ τ b, I xs.length τ b → Q (.nx τ) b) : SAT Q E (forT step xs τ) b :=
  ⟨sat_for I (fun i x τ b hx hi => (hs i x τ b hx hi).h) h0 hd⟩

/-! ### rules, construct by construct, for all ways out -/
section
variable {rp : T → Str} {call : Nat → List T → R Val} {W : Nat → T → Nat → Prop} {τ : Env} {b : Nat}
section
variable {Q : Val → Nat → Prop}
theorem e_ok {e : E} {v : Val} (h : evE rp call e τ = .ok v) (q : Q v b) : SAT Q W (evE rp call e τ) b := by rw [h]; exact ⟨q⟩
theorem e_var {i : Nat} {v : Val} (h : τ[i]? = some (some v)) (q : Q v.t.rd b) : SAT Q W (evE rp call (.var i) τ) b := by
  simp only [evE]; rw [h]; exact ⟨q⟩
theorem e_cst {t : T} (q : Q ⟨t, 2⟩ b) : SAT Q W (evE rp call (.cst t) τ) b := by simp only [evE]; exact ⟨q⟩
theorem e_bin {o : BOp} {x y : E} (h : SAT (fun u b1 => SAT (fun v b2 => SAT Q W (binT o u.t v.t) b2) W (evE rp call y τ) b1) W (evE rp call x τ) b) : SAT Q W (evE rp call (.bin o x y) τ) b := by
  simp only [evE]; exact s_seq (h.imp (fun _ _ z => s_seq z))
theorem e_cmp {o : COp} {x y : E} (h : SAT (fun u b1 => SAT (fun v b2 => SAT (fun r b3 => Q ⟨.bl r, 2⟩ b3) W (cmpT o u.t v.t) b2) W (evE rp call y τ) b1) W (evE rp call x τ) b) : SAT Q W (evE rp call (.cmp o x y) τ) b := by
  simp only [evE]; exact s_seq (h.imp (fun _ _ z => s_seq (z.imp (fun _ _ z => s_seq (z.imp (fun _ _ z => by first | exact z | exact ⟨z⟩))))))
theorem e_neg {x : E} (h : SAT (fun u b1 => ∃ i : Int, u.t = .int i ∧ Q ⟨.int (-i), 2⟩ b1) W (evE rp call x τ) b) : SAT Q W (evE rp call (.neg x) τ) b := by
  simp only [evE]; refine s_seq (h.imp (fun u _ ⟨i, e, z⟩ => ?_))
  rw [e]; first | exact z | exact ⟨z⟩
theorem e_not {x : E} (h : SAT (fun u b1 => ∃ r : Bool, truthy u.t = .ok r ∧ Q ⟨.bl !r, 2⟩ b1) W (evE rp call x τ) b) : SAT Q W (evE rp call (.not x) τ) b := by
  simp only [evE]; refine s_seq (h.imp (fun u _ ⟨i, e, z⟩ => ?_))
  rw [e]; first | exact z | exact ⟨z⟩
theorem e_and {x y : E} (h : SAT (fun u b1 => ∃ r : Bool, truthy u.t = .ok r ∧ if r then SAT Q W (evE rp call y τ) b1 else Q u b1) W (evE rp call x τ) b) : SAT Q W (evE rp call (.and x y) τ) b := by
  simp only [evE]; refine s_seq (h.imp (fun u _ ⟨r, e, z⟩ => ?_))
  rw [e]; cases r <;> first | exact z | exact ⟨z⟩
theorem e_or {x y : E} (h : SAT (fun u b1 => ∃ r : Bool, truthy u.t = .ok r ∧ if r then Q u b1 else SAT Q W (evE rp call y τ) b1) W (evE rp call x τ) b) : SAT Q W (evE rp call (.or x y) τ) b := by
  simp only [evE]; refine s_seq (h.imp (fun u _ ⟨r, e, z⟩ => ?_))
  rw [e]; cases r <;> first | exact z | exact ⟨z⟩
theorem e_ite {c x y : E} (h : SAT (fun u b1 => ∃ r : Bool, truthy u.t = .ok r ∧ SAT Q W (evE rp call (if r then x else y) τ) b1) W (evE rp call c τ) b) : SAT Q W (evE rp call (.ite c x y) τ) b := by
  simp only [evE]; refine s_seq (h.imp (fun u _ ⟨r, e, z⟩ => ?_))
  rw [e]; cases r <;> first | exact z | exact ⟨z⟩
theorem e_lst {es : Es} (h : SAT (fun vs b1 => SAT Q W (mkList vs) b1) W (evEs rp call es τ) b) : SAT Q W (evE rp call (.lst es) τ) b := by
  simp only [evE]; exact s_seq h
theorem e_tup {es : Es} (h : SAT (fun vs b1 => SAT Q W (mkTup vs) b1) W (evEs rp call es τ) b) : SAT Q W (evE rp call (.tup es) τ) b := by
  simp only [evE]; exact s_seq h
theorem e_idx {x y : E} (h : SAT (fun u b1 => SAT (fun v b2 => SAT Q W (idxR u.t v.t) b2) W (evE rp call y τ) b1) W (evE rp call x τ) b) : SAT Q W (evE rp call (.idx x y) τ) b := by
  simp only [evE]; exact s_seq (h.imp (fun _ _ z => s_seq z))
theorem e_isi {x : E} {cs : List Ty} (h : SAT (fun u b1 => SAT (fun r b2 => Q ⟨.bl r, 2⟩ b2) W (isTys u.t cs) b1) W (evE rp call x τ) b) : SAT Q W (evE rp call (.isi x cs) τ) b := by
  simp only [evE]; exact s_seq (h.imp (fun _ _ z => s_seq (z.imp (fun _ _ z => by first | exact z | exact ⟨z⟩))))
theorem e_call {f : Nat} {es : Es} (h : SAT (fun vs b1 => SAT Q W (call f (ts vs)) b1) W (evEs rp call es τ) b) : SAT Q W (evE rp call (.call f es) τ) b := by
  simp only [evE]; exact s_seq h
theorem e_callk {f : Nat} {pm : List Nat} {es ks : Es} (h : SAT (fun vs b1 => SAT (fun ws b2 => SAT Q W (call f (pm.map fun i => (ts vs ++ ts ws).getD i .non)) b2) W (evEs rp call ks τ) b1) W (evEs rp call es τ) b) : SAT Q W (evE rp call (.callk f pm es ks) τ) b := by
  simp only [evE]; exact s_seq (h.imp (fun _ _ z => s_seq z))
theorem e_bi {f : BI} {es : Es} (h : SAT (fun vs b1 => SAT Q W (biT rp f (ts vs)) b1) W (evEs rp call es τ) b) : SAT Q W (evE rp call (.bi f es) τ) b := by
  simp only [evE]; exact s_seq h
end
section
variable {Q : List Val → Nat → Prop}
theorem zes_nil (h : Q [] b) : SAT Q W (evEs rp call .nil τ) b := by simp only [evEs]; first | exact h | exact ⟨h⟩
theorem zes_cons {e : E} {es : Es} (h : SAT (fun v b1 => SAT (fun vs b2 => Q (v :: vs) b2) W (evEs rp call es τ) b1) W (evE rp call e τ) b) : SAT Q W (evEs rp call (.cons e es) τ) b := by
  simp only [evEs]; exact s_seq (h.imp (fun _ _ z => s_seq (z.imp (fun _ _ z => by first | exact z | exact ⟨z⟩))))
end
section
variable {Q : Out → Nat → Prop} {ss : Ss}
/-- a statement's end: go on, or leave -/
def goOn (rp : T → Str) (call : Nat → List T → R Val) (W : Nat → T → Nat → Prop) (Q : Out → Nat → Prop) (ss : Ss) : Out → Nat → Prop := fun o b => match o with
  | .nx τ' => SAT Q W (evSs rp call ss τ') b
  | .rt v => Q (.rt v) b
  | .bk τ' => Q (.bk τ') b
theorem zss_nil (h : Q (.nx τ) b) : SAT Q W (evSs rp call .nil τ) b := by simp only [evSs]; first | exact h | exact ⟨h⟩
theorem zss_kill {is : List Nat} (h : SAT Q W (evSs rp call ss (wipes is τ)) b) : SAT Q W (evSs rp call (.kill is ss) τ) b := by simp only [evSs]; first | exact h | exact ⟨h⟩
theorem zss_cons {s : S} (h : SAT (goOn rp call W Q ss) W (evS rp call s τ) b) : SAT Q W (evSs rp call (.cons s ss) τ) b := by
  simp only [evSs]
  refine s_seq (h.imp (fun o _ z => ?_))
  cases o <;> first | exact z | exact ⟨z⟩
theorem zss_asg {i : Nat} {e : E} {fz : List Nat} (h : SAT (fun v b1 => SAT Q W (evSs rp call ss ((after fz v τ).set i (some v))) b1) W (evE rp call e (hide fz τ)) b) : SAT Q W (evSs rp call (.cons (.asg (.nm i) e fz) ss) τ) b := by
  refine zss_cons ?_
  simp only [evS]
  exact s_seq (h.imp (fun _ _ z => by first | exact z | exact ⟨z⟩))
theorem zss_asgt {is : List Nat} {e : E} {fz : List Nat} (h : SAT (fun v b1 => ∃ xs τ', v.t = .tup xs ∧ setAll is xs (if v.lv = 2 then 2 else 0) (after fz v τ) = .ok τ' ∧ SAT Q W (evSs rp call ss τ') b1) W (evE rp call e (hide fz τ)) b) : SAT Q W (evSs rp call (.cons (.asg (.tp is) e fz) ss) τ) b := by
  refine zss_cons ?_
  simp only [evS]
  refine s_seq (h.imp (fun v _ ⟨xs, τ', e1, e2, z⟩ => ?_))
  unfold setTg
  dsimp only
  rw [e1]
  dsimp only
  rw [e2]
  first | exact z | exact ⟨z⟩
theorem zss_par {is : List Nat} {es : Es} {fz : List Nat} (h : SAT (fun vs b1 => ∃ τ', setVals is vs (if all2 vs then τ else frz fz τ) = .ok τ' ∧ SAT Q W (evSs rp call ss τ') b1) W (evEs rp call es (hide fz τ)) b) : SAT Q W (evSs rp call (.cons (.par is es fz) ss) τ) b := by
  refine zss_cons ?_
  simp only [evS]
  refine s_seq (h.imp (fun v _ ⟨τ', e2, z⟩ => ?_))
  rw [e2]
  first | exact z | exact ⟨z⟩
theorem zss_ret {e : E} (h : SAT (fun v b1 => Q (.rt v) b1) W (evE rp call e τ) b) : SAT Q W (evSs rp call (.cons (.ret e) ss) τ) b := by
  refine zss_cons ?_
  simp only [evS]
  exact s_seq (h.imp (fun _ _ z => by first | exact z | exact ⟨z⟩))
theorem zss_retv {i : Nat} {v : Val} (hv : τ[i]? = some (some v)) (h : Q (.rt v) b) : SAT Q W (evSs rp call (.cons (.retv i) ss) τ) b := by
  refine zss_cons ?_
  simp only [evS]
  rw [hv]
  first | exact h | exact ⟨h⟩
theorem zss_exp {e : E} (h : SAT (fun v b1 => SAT Q W (evSs rp call ss τ) b1) W (evE rp call e τ) b) : SAT Q W (evSs rp call (.cons (.exp e) ss) τ) b := by
  refine zss_cons ?_
  simp only [evS]
  exact s_seq (h.imp (fun _ _ z => by first | exact z | exact ⟨z⟩))
theorem zss_iff {c : E} {x y : Ss} (h : SAT (fun u b1 => ∃ r : Bool, truthy u.t = .ok r ∧ SAT (goOn rp call W Q ss) W (evSs rp call (if r then x else y) τ) b1) W (evE rp call c τ) b) : SAT Q W (evSs rp call (.cons (.iff c x y) ss) τ) b := by
  refine zss_cons ?_
  simp only [evS]
  refine s_seq (h.imp (fun u _ ⟨r, e, z⟩ => ?_))
  rw [e]; cases r <;> first | exact z | exact ⟨z⟩
/-- a test that fails, with nothing to do then -/
theorem zss_iff0 {c : E} {x : Ss} (h : SAT (fun u b1 => u.t = .bl false ∧ SAT Q W (evSs rp call ss τ) b1) W (evE rp call c τ) b) : SAT Q W (evSs rp call (.cons (.iff c x .nil) ss) τ) b := by
  refine zss_iff (h.imp (fun u _ ⟨e, z⟩ => ⟨false, by rw [e]; rfl, ?_⟩))
  exact zss_nil z
theorem zss_forr {tg : Tg} {it : It} {bd : Ss} {xs : List T} (h : evI rp call it τ = .ok xs) (q : SAT (goOn rp call W Q ss) W (forT (fun x τ => setTg tg x.rd τ >>= fun τ' => evSs rp call bd τ') xs τ) b) : SAT Q W (evSs rp call (.cons (.forr tg it bd) ss) τ) b := by
  refine zss_cons ?_
  rw [evS_forr h]
  exact q
theorem zss_for {tg : Tg} {it : TM.It} {bd : Ss} {fz : List Nat} {xs : List T} (h : evI rp call it (hide fz τ) = .ok xs) (q : SAT (goOn rp call W Q ss) W (forT (fun x τ => setTg tg x.rd τ >>= fun τ' => evSs rp call bd τ') xs (frz fz τ)) b) : SAT Q W (evSs rp call (.cons (.for tg it bd fz) ss) τ) b := by
  refine zss_cons ?_
  simp only [evS]
  exact s_let h q
theorem evI_seq {i l : Nat} {xs : List T} (h : τ[i]? = some (some ⟨.lst xs, l⟩)) : evI rp call (.seq (.var i)) τ = .ok xs := by
  simp only [evI, evE]
  rw [h]
  rfl
theorem zss_app {i l : Nat} {e : E} {fz : List Nat} {xs : List T} (hi : τ[i]? = some (some ⟨.lst xs, l⟩)) (h : SAT (fun v b1 => ∃ xs l, (after fz v τ)[i]? = some (some ⟨.lst xs, l + 1⟩) ∧ xs.length < lim l LINE ∧ SAT Q W (evSs rp call ss ((after fz v τ).set i (some ⟨.lst (xs ++ [v.t]), if l = 1 ∧ v.lv = 2 then 2 else 1⟩))) b1) W (evE rp call e (hide fz τ)) b) : SAT Q W (evSs rp call (.cons (.app i e fz) ss) τ) b := by
  refine zss_cons ?_
  simp only [evS]
  rw [if_pos (by unfold lstAt; rw [hi])]
  refine s_seq (h.imp (fun v _ ⟨xs, l, e1, e2, z⟩ => ?_))
  rw [e1]
  dsimp only
  rw [if_pos (by rw [Nat.blt_eq]; exact e2)]
  first | exact z | exact ⟨z⟩
end
theorem e_ite0 {Q : Val → Nat → Prop} {c x y : E} {r : Bool} {l : Nat} (hc : evE rp call c τ = .ok ⟨.bl r, l⟩) (h : SAT Q W (evE rp call (if r then x else y) τ) b) : SAT Q W (evE rp call (.ite c x y) τ) b :=
  e_ite (e_ok hc ⟨r, rfl, h⟩)
/-- a def's run -/
theorem sat_run {P : List Fd} {k np ns f : Nat} {bd : Ss} {as : List T} {Q : Val → Nat → Prop} (hP : P[f]? = some (.fn np ns bd)) (hl : as.length = np)
    (h : SAT (fun o b1 => match o with | .rt v => Q v b1 | .nx _ => Q ⟨.non, 2⟩ b1 | .bk _ => False) W (evSs rp (run rp P k) bd (as.map (fun t => some t.rd) ++ List.replicate (ns - np) none)) b) : SAT Q W (run rp P (k + 1) f as) b := by
  rw [run_fn hP hl]
  refine s_seq (h.imp (fun o _ z => ?_))
  cases o <;> first | exact z | exact ⟨z⟩
end
end TM

set_option Elab.async false
set_option linter.all false
set_option maxRecDepth 10000
set_option maxHeartbeats 400000
namespace TM
open PySem PySem.Spec L2

/-! ### plain facts that no law owns -/
section
variable {rp : T → Str} {k : Nat} {E W : Nat → T → Nat → Prop}
/-- a row, as a list or as a tuple -/
def isRow (ns : List Int) (t : T) : Prop := t = .lst (ns.map .int) ∨ t = .tup (ns.map .int)
theorem intsR_map : ∀ ns : List Int, intsR (ns.map .int) = .ok ns
  | [] => rfl
  | n :: ns => by
    show (intsR (ns.map .int) >>= fun js => R.ok (n :: js)) = _
    rw [intsR_map ns]; rfl
theorem cut_map (ns : List Int) (b e : Nat) (hb : b ≤ e) (he : e ≤ ns.length) : cut (ns.map T.int) (some (b : Int)) (some (e : Int)) = ((ns.drop b).take (e - b)).map T.int := by
  unfold cut
  have e1 : HT.sIx (ns.map T.int).length 0 (some (b : Int)) = b := by
    have : ¬ ((b : Int) < 0) := by omega
    simp [evSs, evS, evE, evEs, evI, evCs, evO, ok_bind, mk2, ts, setTg, setAll, wipes, List.map, List.replicate, T.rd, T.nomut, nomuts, cmpT, HT.sIx, this]
    omega
  have e2 : HT.sIx (ns.map T.int).length (ns.map T.int).length (some (e : Int)) = e := by
    have : ¬ ((e : Int) < 0) := by omega
    simp [evSs, evS, evE, evEs, evI, evCs, evO, ok_bind, mk2, ts, setTg, setAll, wipes, List.map, List.replicate, T.rd, T.nomut, nomuts, cmpT, HT.sIx, this]
    omega
  rw [e1, e2]
  simp [evSs, evS, evE, evEs, evI, evCs, evO, ok_bind, mk2, ts, setTg, setAll, wipes, List.map, List.replicate, T.rd, T.nomut, nomuts, cmpT, List.map_drop, List.map_take]
theorem rngT_map (n : Nat) : ∀ lo : Nat, rngT (lo : Int) n = (List.range' lo n).map fun i : Nat => T.int i := by
  induction n with
  | zero => intro lo; rfl
  | succ n ih =>
    intro lo
    show T.int lo :: rngT ((lo : Int) + 1) n = _
    rw [List.range'_succ, List.map_cons, ← ih (lo + 1)]
    rfl
theorem sum_eq (ns : List Int) : sumI ns = ns.sum := by
  induction ns with
  | nil => rfl
  | cons n ns ih => simp [evSs, evS, evE, evEs, evI, evCs, evO, ok_bind, mk2, ts, setTg, setAll, wipes, List.map, List.replicate, T.rd, T.nomut, nomuts, cmpT, sumI, ih]
theorem row_len {ns : List Int} {t : T} (hr : isRow ns t) : biT rp .len [t] = .ok ⟨.int ns.length, 2⟩ := by
  rcases hr with rfl | rfl <;> simp [evSs, evS, evE, evEs, evI, evCs, evO, ok_bind, mk2, ts, setTg, setAll, wipes, List.map, List.replicate, T.rd, T.nomut, nomuts, cmpT, biT]
theorem in_range {n lo : Nat} {x : T} (hx : x ∈ rngT (lo : Int) n) : ∃ i : Nat, x = .int i ∧ lo ≤ i ∧ i < lo + n := by
  rw [rngT_map] at hx
  obtain ⟨i, hi, rfl⟩ := List.mem_map.mp hx
  have := List.mem_range'_1.mp hi
  exact ⟨i, rfl, this.1, this.2⟩
theorem rngT_getN {n lo i : Nat} {x : T} (h : (rngT (lo : Int) n)[i]? = some x) : x = .int ((lo + i : Nat) : Int) ∧ i < n := by
  rw [rngT_map, List.getElem?_map] at h
  cases e : (List.range' lo n)[i]? with
  | none => rw [e] at h; cases h
  | some j =>
    rw [e] at h
    cases h
    obtain ⟨h1, h2⟩ := List.getElem?_eq_some_iff.1 e
    rw [List.getElem_range'] at h2
    rw [List.length_range'] at h1
    refine ⟨?_, h1⟩
    have : j = lo + i := by omega
    rw [this]
theorem zip_self {xs : List T} : ∀ {x : T}, x ∈ zipT xs xs → ∃ y, y ∈ xs ∧ x = .tup [y, y] := by
  induction xs with
  | nil => intro x h; cases h
  | cons z zs ih =>
    intro x h
    rcases List.mem_cons.mp (show x ∈ T.tup [z, z] :: zipT zs zs from h) with e | e
    · exact ⟨z, List.mem_cons_self, e⟩
    · obtain ⟨y, h1, h2⟩ := ih e
      exact ⟨y, List.mem_cons_of_mem _ h1, h2⟩
theorem zip_len : ∀ xs : List T, (zipT xs xs).length = xs.length
  | [] => rfl
  | x :: xs => congrArg Nat.succ (zip_len xs)
theorem all_trues (xs : List T) (h : xs.length ≤ LINE) : ∃ ys, mkList (xs.filterMap fun _ => some (⟨.bl true, 2⟩ : Val)) = .ok ⟨.lst ys, 2⟩ ∧ biT rp .all [.lst ys] = .ok ⟨.bl true, 2⟩ := by
  refine ⟨xs.map fun _ => T.bl true, ?_, ?_⟩
  · have e : (xs.filterMap fun _ => some (⟨.bl true, 2⟩ : Val)) = xs.map fun _ => (⟨.bl true, 2⟩ : Val) := by
      induction xs with
      | nil => rfl
      | cons x xs ih => rw [List.filterMap_cons, List.map_cons]; simp [evSs, evS, evE, evEs, evI, evCs, evO, ok_bind, mk2, ts, setTg, setAll, wipes, List.map, List.replicate, T.rd, T.nomut, nomuts, cmpT, ih (by simp at h; omega)]
    have h1 : all2 (xs.map fun _ => (⟨.bl true, 2⟩ : Val)) = true := by
      unfold all2
      rw [List.all_map]
      exact List.all_eq_true.2 fun _ _ => rfl
    rw [e]
    unfold mkList
    rw [if_pos (by rw [List.length_map]; exact Nat.ble_eq_true_of_le h), h1]
    show R.ok (⟨.lst ((xs.map fun _ => (⟨.bl true, 2⟩ : Val)).map (·.t)), 2⟩ : Val) = _
    rw [List.map_map]; rfl
  · have b : boolsR (xs.map fun _ => T.bl true) = .ok (xs.map fun _ => true) := by
      clear h
      induction xs with
      | nil => rfl
      | cons x xs ih =>
        show (boolsR (xs.map fun _ => T.bl true) >>= fun js => R.ok (true :: js)) = _
        rw [ih]; rfl
    have a : TM.allTrue (xs.map fun _ => true) = true := by
      clear h b
      induction xs with
      | nil => rfl
      | cons x xs ih => exact ih
    show (boolsR (xs.map fun _ => T.bl true) >>= fun bs => mk2 (.bl (TM.allTrue bs))) = _
    rw [b, ok_bind, a]; rfl
/-- values that are numbers of the clock -/
theorem ints_of {h : Int} : ∀ {vs : List Val}, (∀ v ∈ vs, ∃ i : Int, v = ⟨.int i, 2⟩ ∧ 0 ≤ i ∧ i < h) → ∃ ns : List Int, vs = ns.map (fun i => (⟨.int i, 2⟩ : Val)) ∧ ∀ n ∈ ns, 0 ≤ n ∧ n < h
  | [], _ => ⟨[], rfl, fun _ k => nomatch k⟩
  | v :: vs, hv => by
    obtain ⟨i, rfl, h1⟩ := hv v List.mem_cons_self
    obtain ⟨ns, rfl, h2⟩ := ints_of fun u hu => hv u (List.mem_cons_of_mem _ hu)
    refine ⟨i :: ns, rfl, fun n hn => ?_⟩
    rcases List.mem_cons.1 hn with e | e
    · rw [e]; exact h1
    · exact h2 n e
theorem rng1_ok {call : Nat → List T → R Val} {τ : TM.Env} {e : TM.E} {n l : Nat} (h : evE rp call e τ = .ok ⟨.int n, l⟩) (hn : n ≤ 1000000) : evI rp call (.rng1 e) τ = .ok (rngT ((0 : Nat) : Int) n) := by
  simp only [evI]
  rw [h, ok_bind]
  dsimp only
  rw [if_pos (by omega)]
  rfl
theorem rngT_len (lo : Int) : ∀ n, (rngT lo n).length = n
  | 0 => rfl
  | n + 1 => by
    show (rngT (lo + 1) n).length + 1 = _
    have : ∀ (n : Nat) (lo : Int), (rngT lo n).length = n := by
      intro n
      induction n with
      | zero => intro _; rfl
      | succ n ih => intro lo; exact congrArg Nat.succ (ih _)
    rw [this]
theorem evE_bi1 {call : Nat → List T → R Val} {τ : TM.Env} {f : BI} {e : TM.E} {v : Val} (h : evE rp call e τ = .ok v) : evE rp call (.bi f (.cons e .nil)) τ = biT rp f [v.t] := by
  simp only [evE, evEs]
  rw [h]
  rfl
theorem ne_nil_T {call : Nat → List T → R Val} {τ : TM.Env} {xs : List T} {i l : Nat} (hd : isdats xs = true) (hp : depths xs ≤ 50) (h : τ[i]? = some (some ⟨.lst xs, l⟩)) : evE rp call (.cmp .ne (.var i) (.lst .nil)) τ = .ok ⟨.bl (!xs.isEmpty), 2⟩ := by
  simp only [evE, evEs]
  rw [h]
  show ((eqT (.lst xs) (.lst []) >>= fun r => R.ok !r) >>= fun r => mk2 (.bl r)) = _
  have e : (T.lst xs).eqok = true := by
    unfold T.eqok T.isdat T.depth
    rw [hd, Nat.ble_eq_true_of_le (by omega)]; rfl
  unfold eqT
  rw [e, show (T.lst []).eqok = true from rfl]
  cases xs <;> rfl
theorem getAt0 (x : T) (xs : List T) : getAt (x :: xs) 0 = .ok x := by
  unfold getAt L2.atI L2.ixN
  rw [if_pos (by decide), if_pos (by rw [List.length_cons]; omega)]
  rfl
theorem evE_idx0 {call : Nat → List T → R Val} {τ : TM.Env} {i l : Nat} {x : T} {xs : List T} (h : τ[i]? = some (some ⟨.lst (x :: xs), l⟩)) : evE rp call (.idx (.var i) (.cst (.int 0))) τ = .ok x.rd := by
  simp only [evE]
  rw [h]
  show (getAt (x :: xs) 0 >>= fun x => R.ok x.rd) = _
  rw [getAt0]
  rfl
theorem evE_idxc {call : Nat → List T → R Val} {τ : TM.Env} {e : TM.E} {i : Int} {v w : Val} (h : evE rp call e τ = .ok v) (h2 : idxR v.t (.int i) = .ok w) : evE rp call (.idx e (.cst (.int i))) τ = .ok w := by
  simp only [evE]
  rw [h]
  exact h2
theorem smallIs_ints {h : Int} (hh : h ≤ 1000) : ∀ {ns : List Int}, (∀ n ∈ ns, 0 ≤ n ∧ n < h) → smallIs (ns.map .int) = true
  | [], _ => rfl
  | n :: ns, hn => by
    show (Nat.blt n.natAbs 1000000000000 && smallIs (ns.map .int)) = true
    rw [smallIs_ints hh fun m hm => hn m (List.mem_cons_of_mem _ hm)]
    have := hn n List.mem_cons_self
    rw [show Nat.blt n.natAbs 1000000000000 = true from by rw [Nat.blt_eq]; omega]
    rfl
theorem wts_ints : ∀ ns : List Int, wts (ns.map .int) = ns.length * 42
  | [] => rfl
  | n :: ns => by
    show 41 + 1 + wts (ns.map .int) = (ns.length + 1) * 42
    rw [wts_ints ns]
    omega
theorem row_okrepr {h : Int} {ns : List Int} {t : T} (hr : isRow ns t) (hh : h ≤ 1000) (hn : ∀ n ∈ ns, 0 ≤ n ∧ n < h) (hl : ns.length ≤ 1000) : t.okrepr = true := by
  have a := isdats_ints ns
  have b := smallIs_ints hh hn
  have c := depths_ints ns
  have d := wts_ints ns
  rcases hr with rfl | rfl
  · show (isdats _ && (true && (smallIs _ && (Nat.ble (depths _ + 1) 60 && Nat.ble (wts _) 1048576)))) = true
    rw [a, b, c, d, Nat.ble_eq_true_of_le (show ns.length * 42 ≤ 1048576 by omega)]
    rfl
  · show (isdats _ && (true && (smallIs _ && (Nat.ble (depths _ + 1) 60 && Nat.ble (wts _) 1048576)))) = true
    rw [a, b, c, d, Nat.ble_eq_true_of_le (show ns.length * 42 ≤ 1048576 by omega)]
    rfl
theorem noSs_ints : ∀ ns : List Int, noSs (toDs (ns.map .int)) = true
  | [] => rfl
  | n :: ns => by show (true && noSs (toDs (ns.map .int))) = true; rw [noSs_ints ns]; rfl
theorem cpsOk_all {s : Str} (h : cpsOk s) : s.cps.all (· < 0x110000) = true := by
  rw [← Array.all_toList, List.all_eq_true]
  intro c hc
  exact decide_eq_true (h c hc)
theorem rp_eqok {ns : List Int} {t : T} (hr : isRow ns t) : (T.str (rpT t)).eqok = true := by
  have : cpsOk (rpT t) := by
    rcases hr with rfl | rfl
    · exact cpsOk_shown (d := .list _) (noSs_ints ns)
    · exact cpsOk_shown (d := .tuple _) (noSs_ints ns)
  show ((rpT t).cps.all (· < 0x110000) && true) = true
  rw [cpsOk_all this]
  rfl
theorem ne_same {s : Str} (h : (T.str s).eqok = true) : cmpT .ne (.str s) (.str s) = .ok false := by
  show (eqT (.str s) (.str s) >>= fun r => R.ok !r) = _
  unfold eqT
  rw [h]
  show R.ok (!(strB s s)) = _
  unfold strB
  rw [decide_eq_true rfl]
  rfl
theorem row_repr {h : Int} {ns : List Int} {t : T} (hr : isRow ns t) (hh : h ≤ 1000) (hn : ∀ n ∈ ns, 0 ≤ n ∧ n < h) (hl : ns.length ≤ 1000) : biT rpT .repr [t] = .ok ⟨.str (rpT t), 2⟩ := by
  show (if t.okrepr = true then mk2 (.str (rpT t)) else R.stuck) = _
  rw [if_pos (row_okrepr hr hh hn hl)]
  rfl
theorem lst_rd (xs : List T) : (T.lst xs).rd = ⟨.lst xs, 0⟩ := rfl
theorem nomuts_ints : ∀ ns : List Int, nomuts (ns.map .int) = true
  | [] => rfl
  | n :: ns => by show (true && nomuts (ns.map .int)) = true; rw [nomuts_ints ns]; rfl
theorem tup_rd (ns : List Int) : (T.tup (ns.map .int)).rd = ⟨.tup (ns.map .int), 2⟩ := by
  unfold T.rd
  rw [show (T.tup (ns.map .int)).nomut = true from nomuts_ints ns]
  rfl
/-- a comprehension, by a word on what it has so far -/
theorem sat_lcTI {Q : List Val → Nat → Prop} {step : T → R (Option Val)} (I : Nat → List Val → Nat → Prop) : ∀ {xs : List T} {i n b : Nat} {acc : List Val}, (∀ j x acc b, xs[j]? = some x → I (i + j) acc b → Sat (fun o b' => match o with | none => I (i + j + 1) acc b' | some v => I (i + j + 1) (acc ++ [v]) b') W (step x) b) →
    xs.length + n ≤ LINE → I i acc b → (∀ r b', I (i + xs.length) (acc ++ r) b' → r.length ≤ xs.length → Q r b') → Sat Q W (lcT step xs n) b
  | [], i, n, b, acc, _, _, h0, hQ => hQ [] b (by rw [List.append_nil]; exact h0) (Nat.le_refl _)
  | x :: xs, i, n, b, acc, hs, hl, h0, hQ => by
    have hl : xs.length + 1 + n ≤ LINE := hl
    show Sat Q W (step x >>= fun o => match o with | some v => if Nat.blt n LINE then (do let r ← lcT step xs (n + 1); R.ok (v :: r)) else .stuck | none => lcT step xs n) b
    refine sat_seq ((hs 0 x acc b rfl h0).imp (fun o b1 ho => ?_) fun _ _ _ z => z)
    have hs' : ∀ j y acc b, xs[j]? = some y → I (i + 1 + j) acc b → Sat (fun o b' => match o with | none => I (i + 1 + j + 1) acc b' | some v => I (i + 1 + j + 1) (acc ++ [v]) b') W (step y) b := fun j y acc b hy hi => by
      have e : i + (j + 1) = i + 1 + j := by omega
      have := hs (j + 1) y acc b (by simpa using hy) (by rw [e]; exact hi)
      rw [e] at this
      exact this
    cases o with
    | none =>
      exact sat_lcTI I (i := i + 1) (acc := acc) hs' (by omega) ho fun r b' hr hl => hQ r b' (by
        have e : i + (x :: xs).length = i + 1 + xs.length := by rw [List.length_cons]; omega
        rw [e]; exact hr) (by rw [List.length_cons]; omega)
    | some v =>
      show Sat Q W (if Nat.blt n LINE = true then (lcT step xs (n + 1) >>= fun r => R.ok (v :: r)) else R.stuck) b1
      rw [if_pos (by rw [Nat.blt_eq]; omega)]
      refine sat_seq (sat_lcTI I (i := i + 1) (acc := acc ++ [v]) hs' (by omega) ho fun r b' hr hl => hQ (v :: r) b' ?_ (by rw [List.length_cons, List.length_cons]; omega))
      have e : i + (x :: xs).length = i + 1 + xs.length := by rw [List.length_cons]; omega
      rw [e]
      rw [List.append_assoc] at hr
      exact hr
abbrev iv (i : Int) : Val := ⟨.int i, 2⟩
/-- a comprehension whose parts are numbers, over any walk; what comes is told by I -/
theorem e_lcI {Q : Val → Nat → Prop} {call : Nat → List T → R Val} {τ : TM.Env} {elt : TM.E} {tg : Tg} {it : TM.It} {cs : Es} {own : List Nat} {xs : List T} {b : Nat} (I : Nat → List Int → Nat → Prop) (hi : evI rp call it τ = .ok xs) (hl : xs.length ≤ 1000000)
    (hs : ∀ j x acc b, xs[j]? = some x → I j acc b → ∃ τ', setTg tg x.rd (wipes own τ) = .ok τ' ∧ SAT (fun r b1 => if r = true then SAT (fun v b2 => ∃ i : Int, v.t = .int i ∧ v.lv = 2 ∧ I (j + 1) (acc ++ [i]) b2) (fun _ _ _ => False) (evE rp call elt τ') b1 else I (j + 1) acc b1) (fun _ _ _ => False) (evCs rp call cs τ') b)
    (h0 : I 0 [] b) (hQ : ∀ (ns : List Int) b', I xs.length ns b' → ns.length ≤ xs.length → Q ⟨.lst (ns.map .int), 2⟩ b') : SAT Q W (evE rp call (.lc elt tg it cs own) τ) b := by
  refine ⟨?_⟩
  simp only [evE]
  refine sat_let hi ?_
  refine sat_seq (sat_noexc' ?_)
  refine sat_lcTI (fun i acc b => ∃ ns : List Int, acc = ns.map iv ∧ I i ns b) (i := 0) (acc := []) (fun j x acc b hx ⟨ns, e, hI⟩ => ?_) (by show _ ≤ 16777216; omega) ⟨[], rfl, h0⟩ fun r b' ⟨ns, e, hI⟩ hl2 => ?_
  · subst e
    rw [Nat.zero_add] at hI ⊢
    obtain ⟨τ', h1, h2⟩ := hs j x ns b hx hI
    refine sat_let h1 ?_
    refine sat_seq (h2.h.imp (fun r b1 hr => ?_) fun _ _ _ z => z)
    cases r with
    | true =>
      have hr : SAT (fun v b2 => ∃ i : Int, v.t = .int i ∧ v.lv = 2 ∧ I (j + 1) (ns ++ [i]) b2) (fun _ _ _ => False) (evE rp call elt τ') b1 := hr
      refine sat_seq (hr.h.imp (fun v b2 ⟨i, e1, e2, hv⟩ => ?_) fun _ _ _ z => z)
      obtain ⟨t, lv⟩ := v
      dsimp only at e1 e2
      subst e1 e2
      exact ⟨ns ++ [i], by rw [List.map_append]; rfl, hv⟩
    | false => exact ⟨ns, rfl, hr⟩
  · rw [List.nil_append] at e
    subst e
    rw [List.length_map] at hl2
    rw [Nat.zero_add] at hI
    have := mkList_ints ns (by show _ ≤ 16777216; omega)
    show Sat Q W (mkList (ns.map iv)) b'
    rw [this]
    exact hQ ns b' hI hl2
theorem cs_nil {call : Nat → List T → R Val} {τ : TM.Env} {Q : Bool → Nat → Prop} {b : Nat} (h : Q true b) : SAT Q W (evCs rp call .nil τ) b := ⟨by simp only [evCs]; exact h⟩
theorem cs_one {call : Nat → List T → R Val} {τ : TM.Env} {Q : Bool → Nat → Prop} {b : Nat} {c : TM.E} (h : SAT (fun v b1 => ∃ r : Bool, v.t = .bl r ∧ Q r b1) W (evE rp call c τ) b) : SAT Q W (evCs rp call (.cons c .nil) τ) b := by
  refine ⟨?_⟩
  simp only [evCs]
  refine sat_seq (h.h.imp (fun v b1 ⟨r, e, q⟩ => ?_) fun _ _ _ z => z)
  rw [e]
  cases r <;> exact q
theorem zss_ext {call : Nat → List T → R Val} {τ : TM.Env} {Q : Out → Nat → Prop} {b : Nat} {ss : Ss} {i l : Nat} {e : TM.E} {fz : List Nat} {xs0 : List T} (hi : τ[i]? = some (some ⟨.lst xs0, l⟩)) (h : SAT (fun v b1 => ∃ xs ys l, (after fz v τ)[i]? = some (some ⟨.lst xs, l + 1⟩) ∧ v.t = .lst ys ∧ xs.length + ys.length < lim l (LINE + 1) ∧ SAT Q W (evSs rp call ss ((after fz v τ).set i (some ⟨.lst (xs ++ ys), if l = 1 ∧ v.lv = 2 then 2 else 1⟩))) b1) W (evE rp call e (hide fz τ)) b) : SAT Q W (evSs rp call (.cons (.ext i e fz) ss) τ) b := by
  refine zss_cons ?_
  simp only [evS]
  rw [if_pos (by unfold lstAt; rw [hi])]
  refine s_seq (h.imp (fun v _ ⟨xs, ys, l, e1, e2, e3, z⟩ => ?_))
  rw [e1, e2]
  dsimp only
  rw [if_pos (by rw [Nat.blt_eq]; exact e3)]
  exact ⟨z⟩
theorem zss_sto {call : Nat → List T → R Val} {τ : TM.Env} {Q : Out → Nat → Prop} {b : Nat} {ss : Ss} {i l : Nat} {e ek : TM.E} {fz : List Nat} {xs0 : List T} (hi : τ[i]? = some (some ⟨.lst xs0, l⟩)) (h : SAT (fun v b1 => SAT (fun w b2 => ∃ (xs : List T) (l n : Nat), (after fz v τ)[i]? = some (some ⟨.lst xs, l + 1⟩) ∧ w.t = .int n ∧ n < lim l xs.length ∧ SAT Q W (evSs rp call ss ((after fz v τ).set i (some ⟨.lst (xs.set n v.t), if l = 1 ∧ v.lv = 2 then 2 else 1⟩))) b2) W (evE rp call ek (hide fz τ)) b1) W (evE rp call e (hide fz τ)) b) : SAT Q W (evSs rp call (.cons (.sto i ek e fz) ss) τ) b := by
  refine zss_cons ?_
  simp only [evS]
  rw [if_pos (by unfold lstAt; rw [hi])]
  refine s_seq (h.imp (fun v b1 z1 => s_seq (z1.imp (fun w b2 ⟨xs, l, n, e1, e2, e3, z⟩ => ?_))))
  rw [e1, e2]
  dsimp only
  rw [show ixZ xs.length (n : Int) = n from if_neg (by omega), if_pos (⟨by omega, by exact_mod_cast e3⟩ : (0 : Int) ≤ (n : Int) ∧ (n : Int) < ((lim l xs.length : Nat) : Int)), Int.toNat_natCast]
  exact ⟨z⟩
theorem zss_stoZ {call : Nat → List T → R Val} {τ : TM.Env} {Q : Out → Nat → Prop} {b : Nat} {ss : Ss} {i l : Nat} {e ek : TM.E} {fz : List Nat} {xs0 : List T} (hi : τ[i]? = some (some ⟨.lst xs0, l⟩)) (h : SAT (fun v b1 => SAT (fun w b2 => ∃ (xs : List T) (l n : Nat) (z : Int), (after fz v τ)[i]? = some (some ⟨.lst xs, l + 1⟩) ∧ w.t = .int z ∧ ixZ xs.length z = n ∧ n < lim l xs.length ∧ SAT Q W (evSs rp call ss ((after fz v τ).set i (some ⟨.lst (xs.set n v.t), if l = 1 ∧ v.lv = 2 then 2 else 1⟩))) b2) W (evE rp call ek (hide fz τ)) b1) W (evE rp call e (hide fz τ)) b) : SAT Q W (evSs rp call (.cons (.sto i ek e fz) ss) τ) b := by
  refine zss_cons ?_
  simp only [evS]
  rw [if_pos (by unfold lstAt; rw [hi])]
  refine s_seq (h.imp (fun v b1 z1 => s_seq (z1.imp (fun w b2 ⟨xs, l, n, zz, e1, e2, e4, e3, z⟩ => ?_))))
  rw [e1, e2]
  dsimp only
  rw [e4, if_pos (⟨by omega, by exact_mod_cast e3⟩ : (0 : Int) ≤ (n : Int) ∧ (n : Int) < ((lim l xs.length : Nat) : Int)), Int.toNat_natCast]
  exact ⟨z⟩
end
end TM

set_option Elab.async false
set_option linter.all false
set_option maxRecDepth 100000
set_option maxHeartbeats 8000000
namespace Law
open PySem PySem.Spec L2 TM

abbrev prog : Program := PySem.Challenge.pw_sumsround_k58_whole_main_hulls_and_fewes
def top (i : Nat) : Stmt := prog.main.body.getD i (.Pass ⟨0, 0, 0, 0⟩)
def e_f__law_draw : Ent := ⟨"_law_draw", ["stream", "many"], .draw, []⟩
def b_f_is_list : Ss :=
 (.cons (.ret (.isi (.var 0) [.list, .tuple]))
 .nil)
def e_f_is_list : Ent := ⟨"is_list", ["thing"], .fn 1 1 b_f_is_list, []⟩
def b_f_is_whole : Ss :=
 (.cons (.ret (.and (.isi (.var 0) [.int]) (.not (.isi (.var 0) [.bool]))))
 .nil)
def e_f_is_whole : Ent := ⟨"is_whole", ["thing"], .fn 1 1 b_f_is_whole, []⟩
def b_f_is_rising : Ss :=
 (.cons (.ret (.bi .all (.cons (.lc (.cmp .lt (.var 1) (.var 2)) (.tp [1, 2]) (.zip (.var 0) (.slc (.var 0) (.yes (.cst (.int 1))) .no)) .nil [1, 2]) .nil)))
 .nil)
def e_f_is_rising : Ent := ⟨"is_rising", ["things"], .fn 1 3 b_f_is_rising, []⟩
def b_f_divisor_of_l1 : Ss :=
 (.cons (.par [0, 1] (.cons (.var 1) (.cons (.bin .mod (.var 0) (.var 1)) .nil)) [1, 0])
 .nil)
def b_f_divisor_of : Ss :=
 (.cons (.par [0, 1] (.cons (.bi .abs (.cons (.var 0) .nil)) (.cons (.bi .abs (.cons (.var 1) .nil)) .nil)) [0, 1])
 (.cons (.whl 1000000 (.cmp .gt (.var 1) (.cst (.int 0))) b_f_divisor_of_l1)
 (.cons (.retv 0)
 .nil)))
def e_f_divisor_of : Ent := ⟨"divisor_of", ["one", "other"], .fn 2 2 b_f_divisor_of, []⟩
def b_f_check_whole : Ss :=
 (.cons (.iff (.or (.not (.call 1 (.cons (.var 0) .nil))) (.or (.cmp .eq (.bi .len (.cons (.var 0) .nil)) (.cst (.int 0))) (.or (.not (.bi .all (.cons (.lc (.call 2 (.cons (.var 1) .nil)) (.nm 1) (.seq (.var 0)) .nil [1]) .nil))) (.not (.call 3 (.cons (.var 0) .nil))))))
 (.cons .bad
 .nil)
 .nil)
 .nil)
def e_f_check_whole : Ent := ⟨"check_whole", ["lot"], .fn 1 2 b_f_check_whole, []⟩
def b_f_check_two_l1 : Ss :=
 (.cons (.iff (.cmp .lt (.bi .len (.cons (.var 1) .nil)) (.cst (.int 2)))
 (.cons .bad
 .nil)
 .nil)
 .nil)
def b_f_check_two_l2 : Ss :=
 (.cons (.exp (.call 5 (.cons (.var 1) .nil)))
 .nil)
def b_f_check_two : Ss :=
 (.cons (.for (.nm 1) (.seq (.var 0)) b_f_check_two_l2 [0])
 (.cons (.for (.tp [2, 1]) (.enum (.var 0)) b_f_check_two_l1 [0])
 .nil))
def e_f_check_two : Ent := ⟨"check_two", ["lots"], .fn 1 3 b_f_check_two, []⟩
def b_f_sums_of_l2 : Ss :=
 (.cons (.stod 2 (.bin .add (.var 3) (.var 4)) (.cst (.bl true)) [3, 4])
 .nil)
def b_f_sums_of_l1 : Ss :=
 (.cons (.for (.nm 4) (.seq (.var 1)) b_f_sums_of_l2 [1])
 .nil)
def b_f_sums_of : Ss :=
 (.cons (.asg (.nm 2) (.dsp .nil .nil) [])
 (.cons (.for (.nm 3) (.seq (.var 0)) b_f_sums_of_l1 [0])
 (.cons (.ret (.bi .sorted (.cons (.var 2) .nil)))
 .nil)))
def e_f_sums_of : Ent := ⟨"sums_of", ["one", "other"], .fn 2 5 b_f_sums_of, []⟩
def b_f_whole_sums : Ss :=
 (.cons (.exp (.call 5 (.cons (.var 0) .nil)))
 (.cons (.exp (.call 5 (.cons (.var 1) .nil)))
 (.cons (.ret (.call 7 (.cons (.var 0) (.cons (.var 1) .nil))))
 .nil)))
def e_f_whole_sums : Ent := ⟨"whole_sums", ["one", "other"], .fn 2 2 b_f_whole_sums, []⟩
def b_f_hull_of_l1 : Ss :=
 (.cons (.asg (.nm 1) (.call 4 (.cons (.var 1) (.cons (.bin .sub (.var 2) (.idx (.var 0) (.cst (.int 0)))) .nil))) [1, 2, 0])
 .nil)
def b_f_hull_of : Ss :=
 (.cons (.asg (.nm 1) (.cst (.int 0)) [])
 (.cons (.for (.nm 2) (.seq (.var 0)) b_f_hull_of_l1 [0])
 (.cons (.ret (.tup (.cons (.var 1) (.cons (.idx (.var 0) (.cst (.int 0))) (.cons (.bin .add (.bin .fdiv (.bin .sub (.idx (.var 0) (.neg (.cst (.int 1)))) (.idx (.var 0) (.cst (.int 0)))) (.var 1)) (.cst (.int 1))) .nil)))))
 .nil)))
def e_f_hull_of : Ent := ⟨"hull_of", ["lot"], .fn 1 3 b_f_hull_of, []⟩
def b_f_hull : Ss :=
 (.cons (.exp (.call 6 (.cons (.tup (.cons (.var 0) .nil)) .nil)))
 (.cons (.ret (.call 9 (.cons (.var 0) .nil)))
 .nil))
def e_f_hull : Ent := ⟨"hull", ["lot"], .fn 1 1 b_f_hull, [(0, ["lot"], [0])]⟩
def b_f_sum_floor : Ss :=
 (.cons (.exp (.call 6 (.cons (.tup (.cons (.var 0) .nil)) .nil)))
 (.cons (.ret (.bin .add (.bi .len (.cons (.var 0) .nil)) (.bi .min (.cons (.bin .sub (.idx (.call 9 (.cons (.var 0) .nil)) (.cst (.int 2))) (.cst (.int 1))) (.cons (.bin .sub (.bin .mul (.cst (.int 2)) (.bi .len (.cons (.var 0) .nil))) (.cst (.int 3))) .nil)))))
 .nil))
def e_f_sum_floor : Ent := ⟨"sum_floor", ["lot"], .fn 1 1 b_f_sum_floor, [(0, ["lot"], [0])]⟩
def b_f_bare_of : Ss :=
 (.cons (.asg (.nm 1) (.idx (.call 9 (.cons (.var 0) .nil)) (.cst (.int 0))) [0])
 (.cons (.ret (.lc (.bin .fdiv (.bin .sub (.var 2) (.idx (.var 0) (.cst (.int 0)))) (.var 1)) (.nm 2) (.seq (.var 0)) .nil [2]))
 .nil))
def e_f_bare_of : Ent := ⟨"bare_of", ["lot"], .fn 1 3 b_f_bare_of, []⟩
def b_f_bare : Ss :=
 (.cons (.exp (.call 6 (.cons (.tup (.cons (.var 0) .nil)) .nil)))
 (.cons (.ret (.call 12 (.cons (.var 0) .nil)))
 .nil))
def e_f_bare : Ent := ⟨"bare", ["lot"], .fn 1 1 b_f_bare, [(0, ["lot"], [0])]⟩
def b_f__law_pick : Ss :=
 (.cons (.ret (.idx (.var 1) (.call 0 (.cons (.var 0) (.cons (.bi .len (.cons (.var 1) .nil)) .nil)))))
 .nil)
def e_f__law_pick : Ent := ⟨"_law_pick", ["stream", "things"], .fn 2 2 b_f__law_pick, []⟩
def b_f__law_same : Ss :=
 (.cons (.iff (.isi (.var 1) [.list, .tuple])
 (.cons (.iff (.or (.cmp .ne (.isi (.var 0) [.list]) (.isi (.var 1) [.list])) (.cmp .ne (.isi (.var 0) [.tuple]) (.isi (.var 1) [.tuple])))
 (.cons (.ret (.cst (.bl false)))
 .nil)
 .nil)
 (.cons (.ret (.and (.cmp .eq (.bi .len (.cons (.var 0) .nil)) (.bi .len (.cons (.var 1) .nil))) (.bi .all (.cons (.lc (.call 15 (.cons (.var 2) (.cons (.var 3) .nil))) (.tp [2, 3]) (.zip (.var 0) (.var 1)) .nil [2, 3]) .nil))))
 .nil))
 .nil)
 (.cons (.iff (.isi (.var 1) [.dict])
 (.cons (.ret (.and (.isi (.var 0) [.dict]) (.call 15 (.cons (.bi .list (.cons .bad .nil)) (.cons (.bi .list (.cons .bad .nil)) .nil)))))
 .nil)
 .nil)
 (.cons (.iff (.or (.isi (.var 1) [.bool]) (.isi (.var 0) [.bool]))
 (.cons (.ret (.and (.isi (.var 1) [.bool]) (.and (.isi (.var 0) [.bool]) (.cmp .eq (.var 0) (.var 1)))))
 .nil)
 .nil)
 (.cons (.iff (.or (.cmp .is (.var 1) (.cst .non)) (.cmp .is (.var 0) (.cst .non)))
 (.cons (.ret (.and (.cmp .is (.var 1) (.cst .non)) (.cmp .is (.var 0) (.cst .non))))
 .nil)
 .nil)
 (.cons (.iff (.or (.cmp .ne (.isi (.var 1) [.int]) (.isi (.var 0) [.int])) (.cmp .ne (.isi (.var 1) [.str]) (.isi (.var 0) [.str])))
 (.cons (.ret (.cst (.bl false)))
 .nil)
 .nil)
 (.cons (.ret (.and (.not (.isi (.var 0) [.list, .tuple, .dict])) (.cmp .eq (.var 0) (.var 1))))
 .nil))))))
def e_f__law_same : Ent := ⟨"_law_same", ["found", "due"], .fn 2 4 b_f__law_same, []⟩
def b_f__law_loose : Ss :=
 (.cons (.iff (.isi (.var 1) [.list, .tuple])
 (.cons (.asg (.nm 2) (.lc (.call 16 (.cons (.var 0) (.cons (.var 3) .nil))) (.nm 3) (.seq (.var 1)) .nil [3]) [1, 0])
 (.cons (.ret (.ite (.cmp .eq (.call 0 (.cons (.var 0) (.cons (.cst (.int 2)) .nil))) (.cst (.int 0))) (.var 2) (.bi .tuple (.cons (.var 2) .nil))))
 .nil))
 .nil)
 (.cons (.retv 1)
 .nil))
def e_f__law_loose : Ent := ⟨"_law_loose", ["stream", "thing"], .fn 2 4 b_f__law_loose, []⟩
def b_f__law_divisor_l1 : Ss :=
 (.cons (.par [0, 1] (.cons (.var 1) (.cons (.bin .mod (.var 0) (.var 1)) .nil)) [1, 0])
 .nil)
def b_f__law_divisor : Ss :=
 (.cons (.whl 1000000 (.cmp .gt (.var 1) (.cst (.int 0))) b_f__law_divisor_l1)
 (.cons (.retv 0)
 .nil))
def e_f__law_divisor : Ent := ⟨"_law_divisor", ["one", "other"], .fn 2 2 b_f__law_divisor, []⟩
def b_f__law_whole : Ss :=
 (.cons (.par [5, 6] (.cons (.bin .add (.cst (.int 1)) (.call 0 (.cons (.var 0) (.cons (.var 1) .nil)))) (.cons (.call 0 (.cons (.var 0) (.cons (.cst (.int 4)) .nil))) .nil)) [0, 1])
 (.cons (.asg (.nm 3) (.bin .sub (.call 0 (.cons (.var 0) (.cons (.bin .mul (.cst (.int 2)) (.var 2)) .nil))) (.var 2)) [0, 2])
 (.cons (.iff (.cmp .lt (.var 6) (.cst (.int 2)))
 (.cons (.asg (.nm 7) (.bin .add (.cst (.int 1)) (.call 0 (.cons (.var 0) (.cons (.cst (.int 4)) .nil)))) [0])
 (.cons (.asg (.nm 8) (.lc (.bin .add (.var 3) (.bin .mul (.var 7) (.var 9))) (.nm 9) (.rng1 (.var 5)) .nil [9]) [5, 3, 7])
 (.cons (.iff (.and (.cmp .eq (.var 6) (.cst (.int 1))) (.cmp .gt (.var 5) (.cst (.int 1))))
 (.cons (.sto 8 (.neg (.cst (.int 1))) (.bin .add (.bin .add (.idx (.var 8) (.neg (.cst (.int 2)))) (.cst (.int 1))) (.call 0 (.cons (.var 0) (.cons (.cst (.int 9)) .nil)))) [8, 0])
 .nil)
 .nil)
 (.cons (.retv 8)
 .nil))))
 .nil)
 (.cons (.asg (.nm 4) (.call 14 (.cons (.var 0) (.cons (.lst (.cons (.bin .add (.var 5) (.cst (.int 1))) (.cons (.bin .mul (.cst (.int 2)) (.var 5)) (.cons (.var 2) .nil)))) .nil))) [0, 5, 2])
 (.cons (.ret (.bi .sorted (.cons (.bi .dict (.cons (.lc (.tup (.cons (.bin .add (.var 3) (.call 0 (.cons (.var 0) (.cons (.var 4) .nil)))) (.cons (.cst (.int 0)) .nil))) (.nm 9) (.rng1 (.var 5)) .nil [9]) .nil)) .nil)))
 .nil)))))
def e_f__law_whole : Ent := ⟨"_law_whole", ["stream", "most", "reach"], .fn 3 10 b_f__law_whole, []⟩
def b_f__law_whole_sums_l2 : Ss :=
 (.cons (.stod 2 (.bin .add (.var 3) (.var 4)) (.cst (.int 0)) [3, 4])
 .nil)
def b_f__law_whole_sums_l1 : Ss :=
 (.cons (.for (.nm 4) (.seq (.var 1)) b_f__law_whole_sums_l2 [1])
 .nil)
def b_f__law_whole_sums : Ss :=
 (.cons (.asg (.nm 2) (.dsp .nil .nil) [])
 (.cons (.for (.nm 3) (.seq (.var 0)) b_f__law_whole_sums_l1 [0])
 (.cons (.ret (.bi .sorted (.cons (.var 2) .nil)))
 .nil)))
def e_f__law_whole_sums : Ent := ⟨"_law_whole_sums", ["one", "other"], .fn 2 5 b_f__law_whole_sums, []⟩
def b_f__law_hull_l1 : Ss :=
 (.cons (.asg (.nm 1) (.call 17 (.cons (.var 1) (.cons (.bin .sub (.var 2) (.idx (.var 0) (.cst (.int 0)))) .nil))) [1, 2, 0])
 .nil)
def b_f__law_hull : Ss :=
 (.cons (.asg (.nm 1) (.cst (.int 0)) [])
 (.cons (.for (.nm 2) (.seq (.var 0)) b_f__law_hull_l1 [0])
 (.cons (.ret (.tup (.cons (.var 1) (.cons (.idx (.var 0) (.cst (.int 0))) (.cons (.bin .add (.bin .fdiv (.bin .sub (.idx (.var 0) (.neg (.cst (.int 1)))) (.idx (.var 0) (.cst (.int 0)))) (.var 1)) (.cst (.int 1))) .nil)))))
 .nil)))
def e_f__law_hull : Ent := ⟨"_law_hull", ["lot"], .fn 1 3 b_f__law_hull, []⟩
def b_f__law_bare : Ss :=
 (.cons (.asg (.nm 1) (.idx (.call 20 (.cons (.var 0) .nil)) (.cst (.int 0))) [0])
 (.cons (.ret (.lc (.bin .fdiv (.bin .sub (.var 2) (.idx (.var 0) (.cst (.int 0)))) (.var 1)) (.nm 2) (.seq (.var 0)) .nil [2]))
 .nil))
def e_f__law_bare : Ent := ⟨"_law_bare", ["lot"], .fn 1 3 b_f__law_bare, []⟩
def b_f__law_two : Ss :=
 (.cons (.asg (.nm 3) (.call 18 (.cons (.var 0) (.cons (.var 1) (.cons (.var 2) .nil)))) [0, 1, 2])
 (.cons (.ret (.ite (.cmp .gt (.bi .len (.cons (.var 3) .nil)) (.cst (.int 1))) (.var 3) (.lst (.cons (.idx (.var 3) (.cst (.int 0))) (.cons (.bin .add (.bin .add (.idx (.var 3) (.cst (.int 0))) (.cst (.int 1))) (.call 0 (.cons (.var 0) (.cons (.cst (.int 9)) .nil)))) .nil)))))
 .nil))
def e_f__law_two : Ent := ⟨"_law_two", ["stream", "most", "reach"], .fn 3 4 b_f__law_two, []⟩
def b_law_bd : Ss :=
 (.cons (.asg (.nm 3) (.call 22 (.cons (.var 1) (.cons (.cst (.int 8)) (.cons (.cst (.int 400)) .nil)))) [1])
 (.cons (.par [7, 8, 9] (.cons (.call 16 (.cons (.var 1) (.cons (.var 3) .nil))) (.cons (.call 20 (.cons (.var 3) .nil)) (.cons (.bi .len (.cons (.var 3) .nil)) .nil))) [1, 3])
 (.cons (.par [10, 11] (.cons (.bi .repr (.cons (.var 7) .nil)) (.cons (.bin .add (.var 9) (.bi .min (.cons (.bin .sub (.idx (.var 8) (.cst (.int 2))) (.cst (.int 1))) (.cons (.bin .sub (.bin .mul (.cst (.int 2)) (.var 9)) (.cst (.int 3))) .nil)))) .nil)) [7, 9, 8])
 (.cons (.asg (.nm 4) (.lst (.cons (.call 10 (.cons (.var 7) .nil)) (.cons (.callk 10 [0] .nil (.cons (.bi .list (.cons (.var 3) .nil)) .nil)) (.cons (.call 11 (.cons (.var 7) .nil)) (.cons (.callk 11 [0] .nil (.cons (.bi .list (.cons (.var 3) .nil)) .nil)) .nil))))) [7, 3])
 (.cons (.iff (.not (.call 15 (.cons (.var 4) (.cons (.lst (.cons (.var 8) (.cons (.var 8) (.cons (.var 11) (.cons (.var 11) .nil))))) .nil))))
 (.cons (.ret (.cst (.bl false)))
 .nil)
 .nil)
 (.cons (.asg (.nm 5) (.lst (.cons (.call 13 (.cons (.var 7) .nil)) (.cons (.callk 13 [0] .nil (.cons (.bi .list (.cons (.var 3) .nil)) .nil)) .nil))) [7, 3])
 (.cons (.iff (.not (.call 15 (.cons (.var 5) (.cons (.bin .mul (.lst (.cons (.call 21 (.cons (.var 3) .nil)) .nil)) (.cst (.int 2))) .nil))))
 (.cons (.ret (.cst (.bl false)))
 .nil)
 .nil)
 (.cons (.spoil 5)
 (.cons (.asg (.nm 6) (.bi .len (.cons (.call 19 (.cons (.var 3) (.cons (.var 3) .nil))) .nil)) [3])
 (.cons (.iff (.or (.not (.call 15 (.cons (.lst (.cons (.call 13 (.cons (.var 7) .nil)) (.cons (.bi .len (.cons (.call 8 (.cons (.var 7) (.cons (.var 7) .nil))) .nil)) .nil))) (.cons (.lst (.cons (.call 21 (.cons (.var 3) .nil)) (.cons (.var 6) .nil))) .nil)))) (.cmp .lt (.var 6) (.var 11)))
 (.cons (.ret (.cst (.bl false)))
 .nil)
 .nil)
 (.cons (.iff (.or (.and (.cmp .le (.var 6) (.bin .sub (.bin .mul (.cst (.int 3)) (.var 9)) (.cst (.int 4)))) (.cmp .gt (.idx (.var 8) (.cst (.int 2))) (.bin .add (.bin .sub (.var 6) (.var 9)) (.cst (.int 1))))) (.cmp .ne (.bi .repr (.cons (.var 7) .nil)) (.var 10)))
 (.cons (.ret (.cst (.bl false)))
 .nil)
 .nil)
 .nil)))))))))))
def b_law : Ss :=
 (.cons (.ret (.cst (.bl true)))
 .nil)
abbrev i__law_draw : Nat := 0
abbrev i_is_list : Nat := 1
abbrev i_is_whole : Nat := 2
abbrev i_is_rising : Nat := 3
abbrev i_divisor_of : Nat := 4
abbrev i_check_whole : Nat := 5
abbrev i_check_two : Nat := 6
abbrev i_sums_of : Nat := 7
abbrev i_whole_sums : Nat := 8
abbrev i_hull_of : Nat := 9
abbrev i_hull : Nat := 10
abbrev i_sum_floor : Nat := 11
abbrev i_bare_of : Nat := 12
abbrev i_bare : Nat := 13
abbrev i__law_pick : Nat := 14
abbrev i__law_same : Nat := 15
abbrev i__law_loose : Nat := 16
abbrev i__law_divisor : Nat := 17
abbrev i__law_whole : Nat := 18
abbrev i__law_whole_sums : Nat := 19
abbrev i__law_hull : Nat := 20
abbrev i__law_bare : Nat := 21
abbrev i__law_two : Nat := 22
def P : List Ent := [e_f__law_draw, e_f_is_list, e_f_is_whole, e_f_is_rising, e_f_divisor_of, e_f_check_whole, e_f_check_two, e_f_sums_of, e_f_whole_sums, e_f_hull_of, e_f_hull, e_f_sum_floor, e_f_bare_of, e_f_bare, e_f__law_pick, e_f__law_same, e_f__law_loose, e_f__law_divisor, e_f__law_whole, e_f__law_whole_sums, e_f__law_hull, e_f__law_bare, e_f__law_two]
def nsLaw : Nat := 12
end Law

set_option Elab.async false
set_option linter.all false
set_option maxRecDepth 10000
set_option maxHeartbeats 400000
namespace Law
open PySem PySem.Spec L2 TM
section
variable {rp : T → Str} {k : Nat} {W : Nat → T → Nat → Prop}
abbrev rk (rp : T → Str) (k : Nat) := run rp (fds P) k
/-- a run that ends with what it returns -/
abbrev rtQ (Q : Val → Nat → Prop) : Out → Nat → Prop := fun o b1 => match o with | .rt v => Q v b1 | .nx _ => Q ⟨.non, 2⟩ b1 | .bk _ => False
theorem s_run {np ns f : Nat} {bd : Ss} {as : List T} {Q : Val → Nat → Prop} {b : Nat} (hP : (fds P)[f]? = some (.fn np ns bd)) (hl : as.length = np)
    (h : SAT (rtQ Q) W (evSs rp (rk rp k) bd (as.map (fun t => some t.rd) ++ List.replicate (ns - np) none)) b) : SAT Q W (rk rp (k + 1) f as) b := sat_run hP hl h
theorem r_il (xs : List T) : rk rp (k + 1) i_is_list [.lst xs] = .ok ⟨.bl true, 2⟩ := rfl
theorem r_it (xs : List T) : rk rp (k + 1) i_is_list [.tup xs] = .ok ⟨.bl true, 2⟩ := rfl
theorem r_w (i : Int) : rk rp (k + 1) i_is_whole [.int i] = .ok ⟨.bl true, 2⟩ := rfl
/-- a lot: rising, on the clock -/
def Lot (h : Int) (ns : List Int) : Prop := (∀ n ∈ ns, 0 ≤ n ∧ n < h) ∧ ns.Pairwise (· < ·)
theorem Lot.len {h : Int} {ns : List Int} (l : Lot h ns) : (ns.length : Int) ≤ h ∨ ns = [] := by
  have key : ∀ {ns : List Int} {lo : Int}, (∀ n ∈ ns, lo ≤ n ∧ n < h) → ns.Pairwise (· < ·) → lo ≤ h → (ns.length : Int) ≤ h - lo := by
    intro ns
    induction ns with
    | nil => intro lo _ _ hl; show (0 : Int) ≤ _; omega
    | cons n ns ih =>
      intro lo hn hp hl
      have hn1 := hn n List.mem_cons_self
      have := ih (lo := n + 1) (fun m hm => ⟨by have := (List.pairwise_cons.1 hp).1 m hm; omega, (hn m (List.mem_cons_of_mem _ hm)).2⟩) (List.pairwise_cons.1 hp).2 (by omega)
      rw [List.length_cons]
      omega
  cases ns with
  | nil => exact .inr rfl
  | cons n ns =>
    have h1 := l.1 n List.mem_cons_self
    have := key (lo := 0) l.1 l.2 (by omega)
    exact .inl (by omega)
theorem Lot.len0 {h : Int} {ns : List Int} (l : Lot h ns) (h1 : 0 ≤ h) : (ns.length : Int) ≤ h := by
  rcases l.len with e | e
  · exact e
  · rw [e]; exact h1
theorem fm_congr {α β : Type} {f g : α → Option β} : ∀ {xs : List α}, (∀ x ∈ xs, f x = g x) → xs.filterMap f = xs.filterMap g
  | [], _ => rfl
  | x :: xs, h => by
    rw [List.filterMap_cons, List.filterMap_cons, h x List.mem_cons_self, fm_congr fun y hy => h y (List.mem_cons_of_mem _ hy)]
theorem trues_ok {xs : List T} {g : T → Option Val} (hg : ∀ x ∈ xs, g x = some ⟨.bl true, 2⟩) (hl : xs.length ≤ 1000000) : ∃ ys, mkList (xs.filterMap g) = .ok ⟨.lst ys, 2⟩ ∧ biT rp .all [.lst ys] = .ok ⟨.bl true, 2⟩ := by
  have e : xs.filterMap g = xs.filterMap fun _ => some (⟨.bl true, 2⟩ : Val) := fm_congr fun x hx => hg x hx
  rw [e]
  exact all_trues xs (by show _ ≤ 16777216; omega)
theorem rising_zip : ∀ {ns : List Int}, ns.Pairwise (· < ·) → ∀ x ∈ zipT (ns.map .int) ((ns.drop 1).map .int), ∃ a b : Int, x = .tup [.int a, .int b] ∧ a < b
  | [], _, x, hx => by cases hx
  | [_], _, x, hx => by cases hx
  | a :: b :: r, hp, x, hx => by
    rcases List.mem_cons.1 (show x ∈ T.tup [.int a, .int b] :: zipT ((b :: r).map .int) (((b :: r).drop 1).map .int) from hx) with e | e
    · exact ⟨a, b, e, (List.pairwise_cons.1 hp).1 b List.mem_cons_self⟩
    · exact rising_zip (List.pairwise_cons.1 hp).2 x e
theorem zipT_le : ∀ xs ys : List T, (zipT xs ys).length ≤ xs.length
  | [], _ => Nat.le_refl _
  | _ :: _, [] => Nat.zero_le _
  | x :: xs, y :: ys => Nat.succ_le_succ (zipT_le xs ys)
end
end Law

set_option Elab.async false
set_option linter.all false
set_option maxRecDepth 10000
set_option maxHeartbeats 400000
namespace Law
open PySem PySem.Spec L2 TM
section
variable {rp : T → Str} {k : Nat} {W : Nat → T → Nat → Prop}
theorem d_draw {Q : Val → Nat → Prop} {n : Int} {b : Nat} (h0 : 0 < n) (h1 : n < 1073741824) (hb : 0 < b) (h : ∀ i : Int, 0 ≤ i → i < n → Q ⟨.int i, 2⟩ (b - 1)) : SAT Q W (rk rp (k + 1) i__law_draw [.tok 1, .int n]) b := ⟨sat_draw0 rfl h0 h1 hb h⟩
theorem d_pick {Q : Val → Nat → Prop} {xs : List T} {b : Nat} (h0 : xs ≠ []) (h1 : xs.length < 1000000) (hb : 0 < b) (h : ∀ x ∈ xs, Q x.rd (b - 1)) : SAT Q W (rk rp (k + 2) i__law_pick [.tok 1, .lst xs]) b := by
  refine s_run (np := 2) (ns := 2) (bd := b_f__law_pick) rfl rfl ?_
  have hl : 0 < xs.length := List.length_pos_iff.2 h0
  unfold b_f__law_pick
  refine zss_ret (e_idx (e_ok (v := ⟨.lst xs, 0⟩) rfl (e_call (zes_cons (e_ok (v := ⟨.tok 1, 2⟩) rfl (zes_cons (e_bi (zes_cons (e_ok (v := ⟨.lst xs, 0⟩) rfl (zes_nil (s_ok (a := ⟨.int xs.length, 2⟩) rfl (zes_nil ?_))))))))))))
  refine d_draw (n := xs.length) (by omega) (by omega) hb fun i i0 i1 => ?_
  have hj : i.toNat < xs.length := by omega
  have e : getAt xs i = .ok xs[i.toNat] := by
    unfold getAt L2.atI L2.ixN
    rw [if_pos i0, if_pos i1, Option.bind_some, List.getElem?_eq_getElem hj]
  refine s_ok (a := (xs[i.toNat]).rd) ?_ (h _ (List.getElem_mem hj))
  show (getAt xs i >>= fun x => R.ok x.rd) = _
  rw [e]
  rfl
/-! ### the same -/
def sameOk : Nat → T → Prop
  | _, .non => True
  | _, .bl _ => True
  | _, .int _ => True
  | d + 1, .lst xs => xs.length ≤ 1000000 ∧ ∀ x ∈ xs, sameOk d x
  | d + 1, .tup xs => xs.length ≤ 1000000 ∧ ∀ x ∈ xs, sameOk d x
  | _, _ => False
theorem sm_int (i : Int) : rk rp (k + 1) i__law_same [.int i, .int i] = .ok ⟨.bl true, 2⟩ := by
  rw [rk, run_fn (np := 2) (ns := 4) (bd := b_f__law_same) rfl rfl]
  simp [evSs, evS, evE, evEs, ok_bind, mk2, ts, T.rd, T.nomut, cmpT, b_f__law_same, isTys, isTy, TM.truthy, eqT, T.eqok, T.isdat, T.depth, T.eqB, T.isN]
theorem sm_bl (c : Bool) : rk rp (k + 1) i__law_same [.bl c, .bl c] = .ok ⟨.bl true, 2⟩ := by
  rw [rk, run_fn (np := 2) (ns := 4) (bd := b_f__law_same) rfl rfl]
  simp [evSs, evS, evE, evEs, ok_bind, mk2, ts, T.rd, T.nomut, cmpT, b_f__law_same, isTys, isTy, TM.truthy, eqT, T.eqok, T.isdat, T.depth, T.eqB, T.isN]
theorem sm_non : rk rp (k + 1) i__law_same [.non, .non] = .ok ⟨.bl true, 2⟩ := by
  rw [rk, run_fn (np := 2) (ns := 4) (bd := b_f__law_same) rfl rfl]
  simp [evSs, evS, evE, evEs, ok_bind, mk2, ts, T.rd, T.nomut, cmpT, b_f__law_same, isTys, isTy, TM.truthy, eqT, T.eqok, T.isdat, T.depth, T.eqB, T.isN]
theorem sm_seq {xs : List T} (h : ∀ x ∈ xs, rk rp k i__law_same [x, x] = .ok ⟨.bl true, 2⟩) (hl : xs.length ≤ 1000000) (t : T) (ht : t = .lst xs ∨ t = .tup xs) : rk rp (k + 1) i__law_same [t, t] = .ok ⟨.bl true, 2⟩ := by
  rw [rk, run_fn (np := 2) (ns := 4) (bd := b_f__law_same) rfl rfl]
  have hc : ∀ x ∈ xs, run rp (fds P) k i__law_same [x, x] = .ok ⟨.bl true, 2⟩ := h
  generalize run rp (fds P) k = call at hc ⊢
  obtain ⟨ys, y1, y2⟩ := all_trues (rp := rp) (zipT xs xs) (by rw [zip_len]; show _ ≤ 16777216; omega)
  have lc : evE rp call (.lc (.call i__law_same (.cons (.var 2) (.cons (.var 3) .nil))) (.tp [2, 3]) (.zip (.var 0) (.var 1)) .nil [2, 3]) [some t.rd, some t.rd, none, none] = .ok ⟨.lst ys, 2⟩ := by
    rw [evE_lc (xs := zipT xs xs) (g := fun _ => some ⟨.bl true, 2⟩) (by rcases ht with rfl | rfl <;> rfl) (by rw [zip_len]; show _ ≤ 16777216; omega) (fun x hx => ?_), y1]
    obtain ⟨y, hy, rfl⟩ := zip_self hx
    refine ⟨_, rfl, .inr ⟨_, rfl, rfl, ?_⟩⟩
    exact hc y hy
  have ln : biT rp .len [t] = .ok ⟨.int xs.length, 2⟩ := by rcases ht with rfl | rfl <;> rfl
  have body : evSs rp call b_f__law_same [some t.rd, some t.rd, none, none] = .ok (.rt ⟨.bl true, 2⟩) := by
    have c1 : evE rp call (.isi (.var 1) [.list, .tuple]) [some t.rd, some t.rd, none, none] = .ok ⟨.bl true, 2⟩ := by rcases ht with rfl | rfl <;> rfl
    have c2 : evE rp call (.or (.cmp .ne (.isi (.var 0) [.list]) (.isi (.var 1) [.list])) (.cmp .ne (.isi (.var 0) [.tuple]) (.isi (.var 1) [.tuple]))) [some t.rd, some t.rd, none, none] = .ok ⟨.bl false, 2⟩ := by rcases ht with rfl | rfl <;> rfl
    have c3 : evE rp call (.cmp .eq (.bi .len (.cons (.var 0) .nil)) (.bi .len (.cons (.var 1) .nil))) [some t.rd, some t.rd, none, none] = .ok ⟨.bl true, 2⟩ := by
      simp [evE, evEs, ok_bind, ts, mk2, T.rd, cmpT, ln, eqT, T.eqok, T.isdat, T.depth, T.eqB]
    have c4 : ∀ B, evE rp call B [some t.rd, some t.rd, none, none] = .ok ⟨.bl true, 2⟩ → evE rp call (.and (.cmp .eq (.bi .len (.cons (.var 0) .nil)) (.bi .len (.cons (.var 1) .nil))) B) [some t.rd, some t.rd, none, none] = .ok ⟨.bl true, 2⟩ := fun B hB => by
      rw [evE, c3, ok_bind]
      exact hB
    have c5 : evE rp call (.bi .all (.cons (.lc (.call i__law_same (.cons (.var 2) (.cons (.var 3) .nil))) (.tp [2, 3]) (.zip (.var 0) (.var 1)) .nil [2, 3]) .nil)) [some t.rd, some t.rd, none, none] = .ok ⟨.bl true, 2⟩ := (evE_bi1 lc).trans y2
    refine evSs_rt ((evS_iff c1).trans ?_)
    refine (if_pos rfl).trans ?_
    refine (evSs_nx ((evS_iff c2).trans rfl)).trans (evSs_rt ?_)
    have c6 := c4 _ c5
    simp only [evS]
    rw [c6]
    rfl
  show (evSs rp call b_f__law_same [some t.rd, some t.rd, none, none] >>= fun o => match o with | .rt v => R.ok v | .nx _ => R.ok ⟨.non, 2⟩ | .bk _ => R.stuck) = _
  rw [body]
  rfl
theorem sm_all : ∀ (d : Nat) {k : Nat} (t : T), sameOk d t → rk rp (k + d + 1) i__law_same [t, t] = .ok ⟨.bl true, 2⟩
  | _, _, .non, _ => sm_non
  | _, _, .bl c, _ => sm_bl c
  | _, _, .int i, _ => sm_int i
  | d + 1, k, .lst xs, h => sm_seq (k := k + d + 1) (fun x hx => sm_all d x (h.2 x hx)) h.1 _ (.inl rfl)
  | d + 1, k, .tup xs, h => sm_seq (k := k + d + 1) (fun x hx => sm_all d x (h.2 x hx)) h.1 _ (.inr rfl)
  | 0, _, .lst _, h => h.elim
  | 0, _, .tup _, h => h.elim
  | 0, _, .str _, h => h.elim
  | 0, _, .tok _, h => h.elim
  | 0, _, .dct _ _, h => h.elim
  | _ + 1, _, .str _, h => h.elim
  | _ + 1, _, .tok _, h => h.elim
  | _ + 1, _, .dct _ _, h => h.elim
theorem same_ints {d : Nat} (ns : List Int) (h : ns.length ≤ 1000000) : sameOk (d + 1) (.lst (ns.map .int)) := ⟨by rw [List.length_map]; exact h, fun x hx => by
  obtain ⟨i, _, rfl⟩ := List.mem_map.1 hx
  cases d <;> exact trivial⟩
/-! ### loose -/
theorem l_int {Q : Val → Nat → Prop} {i : Int} {b : Nat} (q : Q ⟨.int i, 2⟩ b) : SAT Q W (rk rp (k + 1) i__law_loose [.tok 1, .int i]) b := by
  refine s_run (np := 2) (ns := 4) (bd := b_f__law_loose) rfl rfl ?_
  unfold b_f__law_loose
  refine zss_iff (e_ok (v := ⟨.bl false, 2⟩) rfl ⟨false, rfl, zss_nil ?_⟩)
  exact zss_retv (v := ⟨.int i, 2⟩) rfl q
theorem d_loose {Q : Val → Nat → Prop} {ns : List Int} {t : T} {b : Nat} (hr : isRow ns t) (hl : ns.length ≤ 1000) (hb : 0 < b) (h : ∀ t l, isRow ns t → Q ⟨t, l⟩ (b - 1)) : SAT Q W (rk rp (k + 2) i__law_loose [.tok 1, t]) b := by
  refine s_run (np := 2) (ns := 4) (bd := b_f__law_loose) rfl rfl ?_
  unfold b_f__law_loose
  refine zss_iff (e_ok (v := ⟨.bl true, 2⟩) (by rcases hr with rfl | rfl <;> rfl) ⟨true, rfl, ?_⟩)
  refine zss_asg ?_
  have hi : evI rp (rk rp (k + 1)) (.seq (.var 1)) (hide [1, 0] [some ⟨.tok 1, 2⟩, some t.rd, none, none]) = .ok (ns.map .int) := by
    have h1 : (hide [1, 0] [some (⟨.tok 1, 2⟩ : Val), some t.rd, none, none])[1]? = some (some t.rd) := hide_in rfl rfl
    rcases hr with rfl | rfl
    · exact evI_seq h1
    · rw [tup_rd] at h1
      simp only [evI, evE]
      rw [tup_rd, h1]
      show (R.ok (T.tup (ns.map .int)).rd >>= _) = _
      rw [tup_rd]
      rfl
  refine e_lcI (xs := ns.map .int) (fun j acc b' => b' = b ∧ acc = ns.take j) hi (by rw [List.length_map]; omega) (fun j x acc b' hx ⟨e1, e2⟩ => ?_) ⟨rfl, rfl⟩ fun ns' b' ⟨e1, e2⟩ _ => ?_
  · rw [List.getElem?_map] at hx
    cases hn : ns[j]? with
    | none => rw [hn] at hx; cases hx
    | some i =>
      rw [hn] at hx
      cases hx
      refine ⟨[some ⟨.tok 1, 2⟩, (hide [1, 0] [some ⟨.tok 1, 2⟩, some t.rd, none, none])[1]?.join, none, some ⟨.int i, 2⟩], ?_, cs_nil ?_⟩
      · show R.ok _ = R.ok _
        have h1 : hideFrom [1, 0] 1 [some t.rd, none, none] = [some t.rd, none, none] := by
          rw [hideFrom_cons, hid1_in (i := 1) rfl]
          rfl
        show R.ok ((wipes [3] (some ⟨.tok 1, 2⟩ :: hideFrom [1, 0] 1 [some t.rd, none, none])).set 3 (some ⟨.int i, 2⟩)) = R.ok [some ⟨.tok 1, 2⟩, ((some ⟨.tok 1, 2⟩ :: hideFrom [1, 0] 1 [some t.rd, none, none])[1]?).join, none, some ⟨.int i, 2⟩]
        rw [h1]
        rfl
      · rw [if_pos rfl]
        refine e_call (zes_cons (e_ok (v := ⟨.tok 1, 2⟩) rfl (zes_cons (e_ok (v := ⟨.int i, 2⟩) rfl (zes_nil (l_int ?_))))))
        exact ⟨i, rfl, rfl, e1, by rw [e2, List.take_add_one, hn]; rfl⟩
  · subst e1 e2
    rw [List.length_map, List.take_length]
    show SAT _ W (evSs rp _ _ [some ⟨.tok 1, 2⟩, some t.rd, some ⟨.lst (ns.map .int), 2⟩, none]) b'
    refine zss_ret (e_ite (e_cmp (e_call (zes_cons (e_ok (v := ⟨.tok 1, 2⟩) rfl (zes_cons (e_ok (v := ⟨.int 2, 2⟩) rfl (zes_nil (d_draw (k := k) (n := 2) (by decide) (by decide) hb fun i i0 i1 => ?_)))))))))
    refine e_ok (v := ⟨.int 0, 2⟩) rfl (s_ok (a := i == 0) rfl ⟨i == 0, rfl, ?_⟩)
    cases i == 0 with
    | true => exact e_ok (v := ⟨.lst (ns.map .int), 0⟩) rfl (h _ _ (.inl rfl))
    | false => exact e_bi (zes_cons (e_ok (v := ⟨.lst (ns.map .int), 0⟩) rfl (zes_nil (s_ok (a := (T.tup (ns.map .int)).rd) rfl (h _ _ (.inr rfl))))))
end
end Law

set_option Elab.async false
set_option linter.all false
set_option maxRecDepth 10000
set_option maxHeartbeats 400000
namespace Law
open PySem PySem.Spec L2 TM
section
variable {rp : T → Str} {k : Nat} {W : Nat → T → Nat → Prop}
theorem leT_int (i j : Int) : leT (.int i) (.int j) = decide (i ≤ j) := by
  have e : leT (.int i) (.int j) = PySem.W.dataLe false (fun r : Int => PyData.int r) i j := rfl
  rw [e, PySem.W.dataLe_int (fun r : Int => r)]
theorem sort_ints (ns : List Int) : sortT (ns.map .int) = (ns.mergeSort fun a b => decide (a ≤ b)).map .int := by
  rw [sortT_eq]
  rw [List.map_mergeSort (r := fun a b : Int => decide (a ≤ b)) (s := leT) (f := T.int) (fun p _ q _ => (leT_int p q).symm)]
theorem any_ints (i : Int) : ∀ ks : List Int, (ks.map T.int).any (fun q => q.eqB (.int i)) = decide (i ∈ ks)
  | [] => rfl
  | k :: ks => by
    rw [List.map_cons, List.any_cons, any_ints i ks]
    show ((k == i) || decide (i ∈ ks)) = _
    by_cases h : k = i
    · subst h; simp
    · have : (k == i) = false := beq_eq_false_iff_ne.2 h
      rw [this, Bool.false_or]
      by_cases h2 : i ∈ ks
      · rw [decide_eq_true h2, decide_eq_true (List.mem_cons_of_mem _ h2)]
      · rw [decide_eq_false h2, decide_eq_false (fun z => (List.mem_cons.1 z).elim (fun e => h e.symm) h2)]
theorem put_ints (i : Int) (v : T) (ks : List Int) (us : List T) : ∃ us', putT (.int i) v (ks.map .int) us = ((if i ∈ ks then ks else ks ++ [i]).map .int, us') := by
  unfold putT
  rw [any_ints]
  by_cases h : i ∈ ks
  · rw [decide_eq_true h, if_pos rfl, if_pos h]
    exact ⟨_, rfl⟩
  · rw [decide_eq_false h, if_neg (by decide), if_neg h, List.map_append]
    exact ⟨_, rfl⟩
theorem merge_ints (v : T) : ∀ (ms acc : List Int) (us : List T), acc.Nodup → ∃ (ks : List Int) (us' : List T), mergeT (ms.map .int) (ms.map fun _ => v) (acc.map .int, us) = (ks.map .int, us') ∧ ks.Nodup ∧ (∀ x, x ∈ ks ↔ x ∈ acc ∨ x ∈ ms) ∧ ks.length ≤ acc.length + ms.length
  | [], acc, us, h => ⟨acc, us, rfl, h, fun x => ⟨.inl, fun z => z.elim id fun k => nomatch k⟩, Nat.le_refl _⟩
  | m :: ms, acc, us, h => by
    obtain ⟨us1, e⟩ := put_ints m v acc us
    obtain ⟨ks, us', e2, h2, h3, h4⟩ := merge_ints v ms (if m ∈ acc then acc else acc ++ [m]) us1 (by
      split
      · exact h
      · rename_i hm
        rw [List.nodup_append]
        exact ⟨h, List.nodup_cons.2 ⟨fun k => (nomatch k), List.nodup_nil⟩, fun a ha b hb e2 => by rw [List.mem_singleton] at hb; rw [hb] at e2; exact hm (e2 ▸ ha)⟩)
    refine ⟨ks, us', ?_, h2, fun x => ?_, ?_⟩
    · show mergeT (ms.map .int) (ms.map fun _ => v) (putT (.int m) v (acc.map .int) us) = _
      rw [e]
      exact e2
    · rw [h3]
      split
      · rename_i hm
        constructor
        · rintro (a | a)
          · exact .inl a
          · exact .inr (List.mem_cons_of_mem _ a)
        · rintro (a | a)
          · exact .inl a
          · rcases List.mem_cons.1 a with e | e
            · exact .inl (by rw [e]; exact hm)
            · exact .inr e
      · rw [List.mem_append, List.mem_singleton, List.mem_cons]
        constructor
        · rintro ((a | a) | a)
          · exact .inl a
          · exact .inr (.inl a)
          · exact .inr (.inr a)
        · rintro (a | a | a)
          · exact .inl (.inl a)
          · exact .inl (.inr a)
          · exact .inr a
    · rw [List.length_cons]
      split at h4
      · omega
      · rw [List.length_append, List.length_singleton] at h4
        omega
theorem pairs_ints (v : T) : ∀ ms : List Int, pairsT (ms.map fun m => .tup [.int m, v]) = .ok (ms.map .int, ms.map fun _ => v)
  | [] => rfl
  | m :: ms => by
    show (pairsT (ms.map fun m => .tup [.int m, v]) >>= fun p => R.ok (T.int m :: p.1, v :: p.2)) = _
    rw [pairs_ints v ms]
    rfl
theorem flat_ints : ∀ ms : List Int, (ms.map T.int).all flatT = true
  | [] => rfl
  | m :: ms => flat_ints ms
theorem alike_ints (l : List Int) : allAlike (l.map .int) = true := by
  unfold allAlike
  rw [List.all_map, List.all_eq_true]
  intro p _
  show (l.map T.int).all _ = true
  rw [List.all_map, List.all_eq_true]
  intro q _
  rfl
theorem sortable_ints (l : List Int) : sortableT (l.map .int) = true := by
  unfold sortableT
  rw [Bool.or_eq_true]
  right
  rw [List.all_map, List.all_eq_true]
  intro p _
  rfl
theorem strict_of {l : List Int} (h : l.Pairwise fun a b => decide (a ≤ b) = true) (nd : l.Nodup) : l.Pairwise (· < ·) := by
  have := h.and nd
  refine this.imp fun {a b} ⟨h1, h2⟩ => ?_
  have := of_decide_eq_true h1
  omega
/-- sorted keys -/
theorem keys_sorted {ks : List Int} {us : List T} (nd : ks.Nodup) (hl : ks.length ≤ 1000000) : ∃ ls : List Int, biT rp .sorted [.dct (ks.map .int) us] = .ok ⟨.lst (ls.map .int), 2⟩ ∧ ls.Pairwise (· < ·) ∧ (∀ x, x ∈ ls ↔ x ∈ ks) ∧ ls.length = ks.length := by
  refine ⟨ks.mergeSort fun a b => decide (a ≤ b), ?_, ?_, fun x => List.mem_mergeSort, List.length_mergeSort _⟩
  · show (if (isdats (ks.map .int) && (allAlike (ks.map .int) && (sortableT (ks.map .int) && (Nat.ble (depths (ks.map .int)) 60 && Nat.ble (ks.map T.int).length LINE)))) = true then (R.ok (⟨.lst (sortT (ks.map .int)), lvl (ks.map .int)⟩ : Val)) else .stuck) = _
    rw [isdats_ints, alike_ints, sortable_ints, depths_ints, Nat.ble_eq_true_of_le (show (ks.map T.int).length ≤ LINE by rw [List.length_map]; show _ ≤ 16777216; omega), sort_ints]
    unfold lvl
    rw [nomuts_ints]
    rfl
  · refine strict_of (List.pairwise_mergeSort (fun a b c h1 h2 => ?_) (fun a b => ?_) ks) ((List.mergeSort_perm ks _).nodup_iff.2 nd)
    · have := of_decide_eq_true h1
      have := of_decide_eq_true h2
      exact decide_eq_true (by omega)
    · rw [Bool.or_eq_true, decide_eq_true_eq, decide_eq_true_eq]
      omega
/-- the same lot, by what is in it -/
theorem rise_ext {l m : List Int} (hl : l.Pairwise (· < ·)) (hm : m.Pairwise (· < ·)) (h : ∀ x, x ∈ l ↔ x ∈ m) : l = m := by
  have p : l.Perm m := (List.perm_ext_iff_of_nodup (hl.imp fun h => by omega) (hm.imp fun h => by omega)).2 h
  exact List.Perm.eq_of_pairwise (fun a b _ _ h1 h2 => absurd (Int.lt_trans h1 h2) (Int.lt_irrefl _)) hl hm p
theorem mkList_2 {vs : List Val} (h : ∀ v ∈ vs, v.lv = 2) (hl : vs.length ≤ 1000000) : mkList vs = .ok ⟨.lst (ts vs), 2⟩ := by
  have h1 : all2 vs = true := by
    unfold all2
    exact List.all_eq_true.2 fun v hv => by rw [h v hv]; rfl
  unfold mkList
  rw [if_pos (Nat.ble_eq_true_of_le (show vs.length ≤ LINE by show _ ≤ 16777216; omega)), h1]
  rfl
/-- the dict of pairs (m, 0), its keys sorted -/
theorem lot_core {ms : List Int} (hl : ms.length ≤ 100000) : ∃ (d : T) (ls : List Int), biT rp .dict [.lst (ms.map fun m => .tup [.int m, .int 0])] = .ok ⟨d, 2⟩ ∧ biT rp .sorted [d] = .ok ⟨.lst (ls.map .int), 2⟩ ∧ ls.Pairwise (· < ·) ∧ (∀ x, x ∈ ls ↔ x ∈ ms) := by
  obtain ⟨ks, us, e, nd, hm, hlen⟩ := merge_ints (.int 0) ms [] [] List.nodup_nil
  rw [List.length_nil] at hlen
  obtain ⟨ls, e2, h2, h3, h4⟩ := keys_sorted (rp := rp) (us := us) nd (by omega)
  refine ⟨.dct (ks.map .int) us, ls, ?_, e2, h2, fun x => by rw [h3, hm]; exact ⟨fun z => z.elim (fun k => nomatch k) id, .inr⟩⟩
  show (pairsT (ms.map fun m => .tup [.int m, .int 0]) >>= fun p => if (p.1.all flatT && nomuts p.2) = true then R.ok (⟨.dct (mergeT p.1 p.2 ([], [])).1 (mergeT p.1 p.2 ([], [])).2, 2⟩ : Val) else .stuck) = _
  rw [pairs_ints, ok_bind]
  dsimp only
  have hn : nomuts (ms.map fun _ => T.int 0) = true := by
    clear e hm hlen hl
    induction ms with
    | nil => rfl
    | cons m r ih => exact ih
  rw [flat_ints, hn]
  have e' : mergeT (ms.map .int) (ms.map fun _ => .int 0) ([], []) = (ks.map .int, us) := e
  rw [e']
  rfl
end
end Law

set_option Elab.async false
set_option linter.all false
set_option maxRecDepth 10000
set_option maxHeartbeats 400000
namespace Law
open PySem PySem.Spec L2 TM
section
variable {rp : T → Str} {k : Nat} {W : Nat → T → Nat → Prop}
section
variable {call : Nat → List T → R Val} {τ : TM.Env} {b : Nat}
/-- a comprehension's walk over xs -/
def lcRun (rp : T → Str) (call : Nat → List T → R Val) (elt : TM.E) (tg : Tg) (cs : Es) (own : List Nat) (τ : TM.Env) (xs : List T) : R Val := (lcT (fun x => do
      let τ' ← setTg tg x.rd (wipes own τ)
      let r ← evCs rp call cs τ'
      match r with
      | true => do let v ← evE rp call elt τ'; .ok (some v)
      | false => .ok none) xs 0).noexc >>= mkList
theorem e_lcE {Q : Val → Nat → Prop} {elt : TM.E} {tg : Tg} {it : TM.It} {cs : Es} {own : List Nat} (h : SAT (fun xs b1 => SAT Q W (lcRun rp call elt tg cs own τ xs) b1) W (evI rp call it τ) b) : SAT Q W (evE rp call (.lc elt tg it cs own) τ) b := by
  have e : evE rp call (.lc elt tg it cs own) τ = (evI rp call it τ >>= fun xs => lcRun rp call elt tg cs own τ xs) := by simp only [evE]; rfl
  rw [e]
  exact s_seq h
theorem lcI_core {Q : Val → Nat → Prop} {elt : TM.E} {tg : Tg} {cs : Es} {own : List Nat} {xs : List T} (I : Nat → List Int → Nat → Prop) (hl : xs.length ≤ 1000000)
    (hs : ∀ j x acc b, xs[j]? = some x → I j acc b → ∃ τ', setTg tg x.rd (wipes own τ) = .ok τ' ∧ SAT (fun r b1 => if r = true then SAT (fun v b2 => ∃ i : Int, v.t = .int i ∧ v.lv = 2 ∧ I (j + 1) (acc ++ [i]) b2) (fun _ _ _ => False) (evE rp call elt τ') b1 else I (j + 1) acc b1) (fun _ _ _ => False) (evCs rp call cs τ') b)
    (h0 : I 0 [] b) (hQ : ∀ (ns : List Int) b', I xs.length ns b' → ns.length ≤ xs.length → Q ⟨.lst (ns.map .int), 2⟩ b') : SAT Q W (lcRun rp call elt tg cs own τ xs) b := by
  have := e_lcI (rp := rp) (call := call) (W := W) (Q := Q) (τ := τ) (elt := elt) (tg := tg) (it := .seq (.cst (.lst xs))) (cs := cs) (own := own) (xs := xs) (b := b) I rfl hl hs h0 hQ
  have e : evE rp call (.lc elt tg (.seq (.cst (.lst xs))) cs own) τ = lcRun rp call elt tg cs own τ xs := by simp only [evE]; rfl
  rw [e] at this
  exact this
theorem i_rng1 {Q : List T → Nat → Prop} {e : TM.E} (h : SAT (fun v b1 => ∃ n : Nat, v.t = .int n ∧ n ≤ 1000000 ∧ Q (rngT ((0 : Nat) : Int) n) b1) W (evE rp call e τ) b) : SAT Q W (evI rp call (.rng1 e) τ) b := by
  simp only [evI]
  refine s_seq (h.imp fun v b1 ⟨n, e1, e2, q⟩ => ?_)
  rw [e1]
  dsimp only
  rw [if_pos (by omega)]
  exact ⟨q⟩
theorem i_rng2 {Q : List T → Nat → Prop} {e e' : TM.E} (h : SAT (fun v b1 => SAT (fun w b2 => ∃ m n : Nat, v.t = .int m ∧ w.t = .int n ∧ m ≤ 1000000 ∧ n ≤ 1000000 ∧ Q (rngT ((m : Nat) : Int) (n - m)) b2) W (evE rp call e' τ) b1) W (evE rp call e τ) b) : SAT Q W (evI rp call (.rng2 e e') τ) b := by
  simp only [evI]
  refine s_seq (h.imp fun v b1 z => s_seq (z.imp fun w b2 ⟨m, n, e1, e2, e3, e4, q⟩ => ?_))
  rw [e1, e2]
  dsimp only
  rw [if_pos (⟨by omega, by omega⟩ : (m : Int).natAbs < 2 ^ 62 ∧ (n : Int).natAbs < 2 ^ 62), show ((n : Int) - (m : Int)).toNat = n - m by omega]
  exact ⟨q⟩
theorem zss_iffP {Q : Out → Nat → Prop} {c : TM.E} {x ss : Ss} {r : Bool} {l : Nat} (I : TM.Env → Nat → Prop) (hc : evE rp call c τ = .ok ⟨.bl r, l⟩) (ht : r = true → SAT (fun o b1 => ∃ τ', o = .nx τ' ∧ I τ' b1) W (evSs rp call x τ) b) (hf : r = false → I τ b) (hgo : ∀ τ' b', I τ' b' → SAT Q W (evSs rp call ss τ') b') : SAT Q W (evSs rp call (.cons (.iff c x .nil) ss) τ) b := by
  refine zss_iff (e_ok hc ⟨r, rfl, ?_⟩)
  cases r with
  | true => exact (ht rfl).imp fun o b1 ⟨τ', e, hI⟩ => by rw [e]; exact hgo τ' b1 hI
  | false => exact zss_nil (hgo τ b (hf rfl))
end
theorem inB_ints (i : Int) : ∀ ks : List Int, inB (.int i) (ks.map .int) = decide (i ∈ ks)
  | [] => rfl
  | k :: ks => by
    show ((k == i) || inB (.int i) (ks.map .int)) = _
    rw [inB_ints i ks]
    by_cases h : k = i
    · subst h; simp
    · have : (k == i) = false := beq_eq_false_iff_ne.2 h
      rw [this, Bool.false_or]
      by_cases h2 : i ∈ ks
      · rw [decide_eq_true h2, decide_eq_true (List.mem_cons_of_mem _ h2)]
      · rw [decide_eq_false h2, decide_eq_false (fun z => (List.mem_cons.1 z).elim (fun e => h e.symm) h2)]
abbrev fD (h way : Int) (lot by_ rounds number step begin_ : Option Val) : TM.Env := [some ⟨.tok 1, 2⟩, some ⟨.int h, 2⟩, some ⟨.int way, 2⟩, lot, by_, rounds, number, step, begin_, none]
def okD (h way : Int) (τ : TM.Env) : Prop := ∃ (ns : List Int) (l : Nat) (x4 x5 x6 x7 x8 : Option Val), τ = fD h way (some ⟨.lst (ns.map .int), l⟩) x4 x5 x6 x7 x8 ∧ Lot h ns ∧ l = 2
theorem below_app {j : Nat} {acc : List Int} (h : (∀ n ∈ acc, 0 ≤ n ∧ n < (j : Int)) ∧ acc.Pairwise (· < ·)) : (∀ n ∈ acc ++ [(j : Int)], 0 ≤ n ∧ n < ((j + 1 : Nat) : Int)) ∧ (acc ++ [(j : Int)]).Pairwise (· < ·) := by
  refine ⟨fun n hn => ?_, ?_⟩
  · rcases List.mem_append.1 hn with a | a
    · have := h.1 n a; omega
    · rw [List.mem_singleton] at a; omega
  · rw [List.pairwise_append]
    exact ⟨h.2, List.pairwise_singleton _ _, fun a ha b hb => by rw [List.mem_singleton] at hb; have := h.1 a ha; omega⟩
theorem below_skip {j : Nat} {acc : List Int} (h : (∀ n ∈ acc, 0 ≤ n ∧ n < (j : Int)) ∧ acc.Pairwise (· < ·)) : (∀ n ∈ acc, 0 ≤ n ∧ n < ((j + 1 : Nat) : Int)) ∧ acc.Pairwise (· < ·) := ⟨fun n hn => by have := h.1 n hn; omega, h.2⟩
theorem cut_take (ns : List Int) : cut (ns.map T.int) none (some 2) = (ns.take 2).map .int := by
  unfold cut
  show ((ns.map T.int).drop 0).take (min (2 : Int).toNat (ns.map T.int).length - 0) = _
  rw [List.drop_zero, List.map_take, Nat.sub_zero]
  show (ns.map T.int).take (min 2 _) = _
  rcases Nat.le_total 2 (ns.map T.int).length with h | h
  · rw [Nat.min_eq_left h]
  · rw [Nat.min_eq_right h, List.take_length, List.take_of_length_le h]
def okR (h way : Int) (ns : List Int) (by_ : Int) (i : Nat) (τ : TM.Env) (b b' : Nat) : Prop := b' = b ∧ ∃ (rs : List Int) (x6 x7 x8 : Option Val), τ = fD h way (some ⟨.lst (ns.map .int), 0⟩) (some ⟨.int by_, 2⟩) (some ⟨.lst (rs.map .int), 2⟩) x6 x7 x8 ∧ rs.length ≤ i * 100
end
end Law

set_option Elab.async false
set_option linter.all false
set_option maxRecDepth 10000
set_option maxHeartbeats 400000
namespace Law
open PySem PySem.Spec L2 TM
section
variable {rp : T → Str} {k : Nat} {W : Nat → T → Nat → Prop}
theorem evI_row {call : Nat → List T → R Val} {τ : TM.Env} {i l : Nat} {ns : List Int} {t : T} (hr : isRow ns t) (h : τ[i]? = some (some ⟨t, l⟩)) : evI rp call (.seq (.var i)) τ = .ok (ns.map .int) := by
  simp only [evI, evE]
  rw [h]
  rcases hr with rfl | rfl <;> rfl
theorem evI_rowr {call : Nat → List T → R Val} {τ : TM.Env} {i : Nat} {ns : List Int} {t : T} (hr : isRow ns t) (h : τ[i]? = some (some t.rd)) : evI rp call (.seq (.var i)) τ = .ok (ns.map .int) := evI_row (l := t.rd.lv) hr h
def bump (fs : List Int) (p : Nat) : List Int := fs.set p (fs.getD p 0 + 1)
theorem bump_len (fs : List Int) (p : Nat) : (bump fs p).length = fs.length := List.length_set ..
theorem getAt_ints (fs : List Int) {p : Nat} (hp : p < fs.length) : getAt (fs.map T.int) (p : Int) = .ok (.int (fs.getD p 0)) := by
  unfold getAt L2.atI L2.ixN
  rw [if_pos (by omega), if_pos (by rw [List.length_map]; omega), Option.bind_some, Int.toNat_natCast, List.getElem?_map, List.getElem?_eq_getElem hp]
  show R.ok (T.int fs[p]) = _
  rw [List.getD_eq_getElem?_getD, List.getElem?_eq_getElem hp]
  rfl
theorem rep_flat (n : Nat) : (List.replicate n [T.int 0]).flatten = (List.replicate n (0 : Int)).map .int := by
  induction n with
  | zero => rfl
  | succ n ih =>
    rw [List.replicate_succ, List.replicate_succ, List.flatten_cons, ih]
    rfl
theorem zeros_ok {call : Nat → List T → R Val} {τ : TM.Env} {h : Int} (h1 : 1 ≤ h) (h2 : h ≤ 1000) (ht : τ[0]? = some (some ⟨.int h, 2⟩)) : evE rp call (.bin .mul (.lst (.cons (.cst (.int 0)) .nil)) (.var 0)) τ = .ok ⟨.lst ((List.replicate h.toNat (0 : Int)).map .int), 2⟩ := by
  simp only [evE, evEs]
  rw [ht]
  show (if (h.natAbs < 2 ^ 60 && 1 * h.toNat ≤ LINE) = true then (R.ok (⟨.lst (List.replicate h.toNat [T.int 0]).flatten, lvl [T.int 0]⟩ : Val)) else .stuck) = _
  rw [if_pos, rep_flat]
  · rfl
  · rw [Bool.and_eq_true, decide_eq_true_eq, decide_eq_true_eq]
    exact ⟨by omega, by show _ ≤ 16777216; omega⟩
theorem map_get {ns : List Int} {j : Nat} {x : T} (h : (ns.map T.int)[j]? = some x) : ∃ n, ns[j]? = some n ∧ x = .int n ∧ n ∈ ns := by
  rw [List.getElem?_map] at h
  cases hq : ns[j]? with
  | none => rw [hq] at h; cases h
  | some n => rw [hq] at h; cases h; exact ⟨n, rfl, rfl, List.mem_of_getElem? hq⟩
end
end Law

set_option Elab.async false
set_option linter.all false
set_option maxRecDepth 10000
set_option maxHeartbeats 400000
namespace Law
open PySem PySem.Spec L2 TM
section
variable {rp : T → Str} {k : Nat} {W : Nat → T → Nat → Prop}
section
variable {call : Nat → List T → R Val} {τ : TM.Env} {b : Nat}
theorem zss_stod {Q : Out → Nat → Prop} {ss : Ss} {i l0 : Nat} {e ek : TM.E} {fz : List Nat} {ks0 us0 : List T} (hi : τ[i]? = some (some ⟨.dct ks0 us0, l0⟩)) (h : SAT (fun v b1 => SAT (fun w b2 => ∃ (ks us : List T) (l : Nat), (after fz v τ)[i]? = some (some ⟨.dct ks us, l + 1⟩) ∧ flatT w.t = true ∧ ks.length < lim l LINE ∧ SAT Q W (evSs rp call ss ((after fz v τ).set i (some ⟨.dct (putT w.t v.t ks us).1 (putT w.t v.t ks us).2, if l = 1 ∧ v.t.nomut = true then 2 else 1⟩))) b2) W (evE rp call ek (hide fz τ)) b1) W (evE rp call e (hide fz τ)) b) : SAT Q W (evSs rp call (.cons (.stod i ek e fz) ss) τ) b := by
  refine zss_cons ?_
  simp only [evS]
  rw [if_pos (by unfold dctAt; rw [hi])]
  refine s_seq (h.imp (fun v b1 z1 => s_seq (z1.imp (fun w b2 ⟨ks, us, l, e1, e2, e3, z⟩ => ?_))))
  rw [e1]
  dsimp only
  rw [if_pos (by rw [e2, Bool.true_and, Nat.blt_eq]; exact e3)]
  exact ⟨z⟩
theorem mod_ok {i j : Int} (hj : 0 < j) : TM.binT .mod (.int i) (.int j) = .ok ⟨.int (i % j), 2⟩ := by
  show (if 0 < j then mk2 (.int (i % j)) else R.stuck) = _
  rw [if_pos hj]
  rfl
theorem mul_ok {i j : Int} (hi : i.natAbs < 2 ^ 64) : TM.binT .mul (.int i) (.int j) = .ok ⟨.int (i * j), 2⟩ := by
  show (if ((i.natAbs < 2 ^ 64) || (j.natAbs < 2 ^ 64)) = true then mk2 (.int (i * j)) else R.stuck) = _
  rw [if_pos]
  · rfl
  · rw [Bool.or_eq_true]; left; rw [decide_eq_true_eq]; exact hi
end
/-- the lot of some numbers, of some sums -/
def lotF (h : Int) (ns : List Int) : List Int := ((List.range h.toNat).filter fun s : Nat => ns.any fun n => n % h == (s : Int)).map fun s : Nat => (s : Int)
def sumF (h : Int) (A B : List Int) : List Int := lotF h (A.flatMap fun a => B.map fun c => a + c)
theorem lotF_mem {h : Int} (h1 : 1 ≤ h) {ns : List Int} {x : Int} : x ∈ lotF h ns ↔ ∃ n ∈ ns, x = n % h := by
  unfold lotF
  rw [List.mem_map]
  constructor
  · rintro ⟨s, hs, rfl⟩
    rw [List.mem_filter, List.any_eq_true] at hs
    obtain ⟨_, n, hn, e⟩ := hs
    exact ⟨n, hn, (eq_of_beq e).symm⟩
  · rintro ⟨n, hn, rfl⟩
    have := Int.emod_nonneg n (show h ≠ 0 by omega)
    have := Int.emod_lt_of_pos n (show 0 < h by omega)
    refine ⟨(n % h).toNat, ?_, by omega⟩
    rw [List.mem_filter, List.any_eq_true, List.mem_range]
    refine ⟨by omega, n, hn, ?_⟩
    rw [beq_iff_eq]
    omega
theorem lotF_lot {h : Int} (h1 : 1 ≤ h) (ns : List Int) : Lot h (lotF h ns) := by
  refine ⟨fun n hn => ?_, ?_⟩
  · obtain ⟨m, _, rfl⟩ := (lotF_mem h1).1 hn
    exact ⟨Int.emod_nonneg _ (by omega), Int.emod_lt_of_pos _ (by omega)⟩
  · unfold lotF
    rw [List.pairwise_map]
    exact (List.Pairwise.filter _ List.pairwise_lt_range).imp fun h => by omega
theorem lotF_eq {h : Int} (h1 : 1 ≤ h) {ns ls : List Int} (hl : Lot h ls) (hm : ∀ x, x ∈ ls ↔ ∃ n ∈ ns, x = n % h) : ls = lotF h ns := rise_ext hl.2 (lotF_lot h1 ns).2 fun x => by rw [hm, lotF_mem h1]
theorem flat_len (B : List Int) : ∀ l : List Int, (l.flatMap fun a => B.map fun c => a + c).length = l.length * B.length
  | [] => by simp
  | a :: l => by rw [List.flatMap_cons, List.length_append, flat_len B l, List.length_map, List.length_cons, Nat.succ_mul]; omega
/-- both bodies of sums -/
theorem sums_body {call : Nat → List T → R Val} {Q : Out → Nat → Prop} {ix : Nat} {h : Int} {other : T} {A B : List Int} {b : Nat} (hB : isRow B other) (la : A.length ≤ 100) (lb : B.length ≤ 100) (hc : ∀ {ns : List Int} {Q : Val → Nat → Prop}, ns.length ≤ 100000 → Q ⟨.lst ((lotF h ns).map .int), 2⟩ b → SAT Q W (call ix [.int h, .lst (ns.map .int)]) b) (q : Q (.rt ⟨.lst ((sumF h A B).map .int), 2⟩) b) :
    SAT Q W (evSs rp call (.cons (.asg (.nm 3) (.lst .nil) []) (.cons (.for (.nm 4) (.seq (.var 1)) (.cons (.ext 3 (.lc (.bin .add (.var 4) (.var 5)) (.nm 5) (.seq (.var 2)) .nil [5]) [2, 4]) .nil) [1]) (.cons (.ret (.call ix (.cons (.var 0) (.cons (.var 3) .nil)))) .nil)))
      [some ⟨.int h, 2⟩, some ⟨.lst (A.map .int), 0⟩, some other.rd, none, none, none]) b := by
  refine zss_asg (e_ok (v := ⟨.lst [], 2⟩) rfl ?_)
  refine zss_for (xs := A.map .int) (evI_seq (l := 0) (hide_in rfl rfl)) ?_
  refine s_for (fun i τ b' => b' = b ∧ ∃ x4, τ = [some ⟨.int h, 2⟩, some ⟨.lst (A.map .int), 0⟩, some other.rd, some ⟨.lst (((A.take i).flatMap fun a => B.map fun c => a + c).map .int), 2⟩, x4, none]) (fun i x τ b' hx ⟨hb', x4, e⟩ => ?_) ⟨rfl, _, rfl⟩ fun τ b' ⟨hb', x4, e⟩ => ?_
  · obtain ⟨a, ha, rfl, _⟩ := map_get hx
    subst e hb'
    show SAT _ W (evSs _ _ _ [some ⟨.int h, 2⟩, some ⟨.lst (A.map .int), 0⟩, some other.rd, some ⟨.lst (((A.take i).flatMap fun a => B.map fun c => a + c).map .int), 2⟩, some ⟨.int a, 2⟩, none]) b'
    have hlen : ((A.take i).flatMap fun a => B.map fun c => a + c).length ≤ 10000 := by
      rw [flat_len]
      have h2 : (A.take i).length ≤ 100 := by rw [List.length_take]; omega
      exact Nat.le_trans (Nat.mul_le_mul h2 lb) (by decide)
    refine zss_ext (xs0 := ((A.take i).flatMap fun a => B.map fun c => a + c).map .int) (l := 2) rfl (e_lcE (s_ok (evI_rowr hB (hide_in rfl rfl)) ?_))
    refine lcI_core (fun j acc b2 => b2 = b' ∧ acc = (B.take j).map fun c => a + c) (by rw [List.length_map]; omega) (fun j x acc b2 hx ⟨hb2, hacc⟩ => ?_) ⟨rfl, rfl⟩ fun ns b2 ⟨hb2, hacc⟩ _ => ?_
    · obtain ⟨c, hc, rfl, hm⟩ := map_get hx
      refine ⟨_, rfl, cs_nil ?_⟩
      rw [if_pos rfl]
      refine e_bin (e_ok (v := ⟨.int a, 2⟩) rfl (e_ok (v := ⟨.int c, 2⟩) rfl (s_ok (a := ⟨.int (a + c), 2⟩) rfl ⟨_, rfl, rfl, hb2, ?_⟩)))
      rw [hacc, List.take_add_one, hc, List.map_append]
      rfl
    · subst hb2 hacc
      rw [List.length_map, List.take_length]
      refine ⟨((A.take i).flatMap fun a => B.map fun c => a + c).map .int, (B.map fun c => a + c).map .int, 1, rfl, rfl, by rw [List.length_map, List.length_map, List.length_map]; show _ < 16777217; omega, zss_nil ⟨rfl, some ⟨.int a, 2⟩, ?_⟩⟩
      have e : (A.take (i + 1)).flatMap (fun a => B.map fun c => a + c) = ((A.take i).flatMap fun a => B.map fun c => a + c) ++ B.map fun c => a + c := by
        rw [List.take_add_one, ha, List.flatMap_append]
        simp
      rw [e, List.map_append]
      rfl
  · subst e hb'
    rw [List.length_map, List.take_length]
    have hlen : (A.flatMap fun a => B.map fun c => a + c).length ≤ 100000 := by
      rw [flat_len]
      exact Nat.le_trans (Nat.mul_le_mul la lb) (by decide)
    exact zss_ret (e_call (zes_cons (e_ok (v := ⟨.int h, 2⟩) rfl (zes_cons (e_ok (v := ⟨.lst ((A.flatMap fun a => B.map fun c => a + c).map .int), 0⟩) rfl (zes_nil (hc hlen q)))))))
/-! many times -/
def oftF (h : Int) (B : List Int) : Nat → List Int
  | 0 => [0]
  | n + 1 => sumF h (oftF h B n) B
theorem oftF_len {h : Int} (h1 : 1 ≤ h) (h2 : h ≤ 100) (B : List Int) : ∀ n, (oftF h B n).length ≤ 100
  | 0 => by show 1 ≤ 100; decide
  | n + 1 => by
    have := (lotF_lot h1 ((oftF h B n).flatMap fun a => B.map fun c => a + c)).len0 (by omega)
    show (sumF h (oftF h B n) B).length ≤ 100
    unfold sumF
    omega
theorem often_body {call : Nat → List T → R Val} {Q : Out → Nat → Prop} {ix : Nat} {h : Int} {other : T} {B : List Int} {b n : Nat} (h1 : 1 ≤ h) (h2 : h ≤ 100) (hB : isRow B other) (lb : B.length ≤ 100) (hn : n ≤ 1000) (hc : ∀ {A : List Int} {Q : Val → Nat → Prop}, A.length ≤ 100 → Q ⟨.lst ((sumF h A B).map .int), 2⟩ b → SAT Q W (call ix [.int h, .lst (A.map .int), other]) b) (q : Q (.rt ⟨.lst ((oftF h B n).map .int), 2⟩) b) :
    SAT Q W (evSs rp call (.cons (.asg (.nm 3) (.lst (.cons (.cst (.int 0)) .nil)) []) (.cons (.forr (.nm 4) (.rng1 (.var 2)) (.cons (.asg (.nm 3) (.call ix (.cons (.var 0) (.cons (.var 3) (.cons (.var 1) .nil)))) [0, 3, 1]) .nil)) (.cons (.retv 3) .nil)))
      [some ⟨.int h, 2⟩, some other.rd, some ⟨.int n, 2⟩, none, none]) b := by
  refine zss_asg (e_ok (v := ⟨.lst [.int 0], 2⟩) rfl ?_)
  refine zss_forr (xs := rngT ((0 : Nat) : Int) n) (rng1_ok (n := n) (l := 2) rfl (by omega)) ?_
  refine s_for (fun i τ b' => b' = b ∧ ∃ x4, τ = [some ⟨.int h, 2⟩, some other.rd, some ⟨.int n, 2⟩, some ⟨.lst ((oftF h B i).map .int), 2⟩, x4]) (fun i x τ b' hx ⟨hb', x4, e⟩ => ?_) ⟨rfl, _, rfl⟩ fun τ b' ⟨hb', x4, e⟩ => ?_
  · obtain ⟨rfl, hi⟩ := rngT_getN hx
    subst e hb'
    show SAT _ W (evSs _ _ _ [some ⟨.int h, 2⟩, some other.rd, some ⟨.int n, 2⟩, some ⟨.lst ((oftF h B i).map .int), 2⟩, some ⟨.int ((0 + i : Nat) : Int), 2⟩]) b'
    exact zss_asg (e_call (zes_cons (e_ok (v := ⟨.int h, 2⟩) rfl (zes_cons (e_ok (v := ⟨.lst ((oftF h B i).map .int), 0⟩) rfl (zes_cons (e_var (v := other.rd) (hide_in (i := 1) rfl rfl) (zes_nil (hc (oftF_len h1 h2 B i) (zss_nil ⟨rfl, _, rfl⟩))))))))))
  · subst e hb'
    rw [rngT_len]
    exact zss_retv (v := ⟨.lst ((oftF h B n).map .int), 2⟩) rfl q
end
end Law

set_option Elab.async false
set_option linter.all false
set_option maxRecDepth 10000
set_option maxHeartbeats 400000
namespace TM
open PySem PySem.Spec L2
/-! ### rules for what came late: fresh, two ways, things to spoil -/
section
variable {rp : T → Str} {call : Nat → List T → R Val} {W : Nat → T → Nat → Prop} {τ : TM.Env} {b : Nat}
theorem e_fresh {Q : Val → Nat → Prop} {e : TM.E} (h : SAT (fun v b1 => Q (up v) b1) W (evE rp call e (hideM τ)) b) : SAT Q W (evE rp call (.fresh e) τ) b := by
  simp only [evE]
  exact s_seq (h.imp fun _ _ z => ⟨z⟩)
theorem e_slc {Q : Val → Nat → Prop} {x : TM.E} {lo hi : OE} {l hh : Option Int} (hl : evO rp call lo τ = .ok l) (hu : evO rp call hi τ = .ok hh) (h : SAT (fun u b1 => SAT Q W (slcR u.t l hh) b1) W (evE rp call x τ) b) : SAT Q W (evE rp call (.slc x lo hi) τ) b := by
  simp only [evE]
  refine s_seq (h.imp fun u b1 z => ?_)
  rw [hl, hu]
  exact z
theorem zss_fori {Q : Out → Nat → Prop} {tg : Tg} {c x y : TM.E} {bd ss : Ss} {fz : List Nat} {r : Bool} {l : Nat} (hc : evE rp call c τ = .ok ⟨.bl r, l⟩) (h : SAT (fun xs b1 => SAT (goOn rp call W Q ss) W (forT (fun x τ => setTg tg x.rd τ >>= fun τ' => evSs rp call bd τ') xs (frz fz τ)) b1) W (evI rp call (.seq (if r = true then x else y)) (hide fz τ)) b) : SAT Q W (evSs rp call (.cons (.fori tg c x y bd fz) ss) τ) b := by
  refine zss_cons ?_
  simp only [evS]
  rw [hc, ok_bind]
  have ht : truthy (T.bl r) = .ok r := rfl
  dsimp only
  rw [ht, ok_bind]
  cases r with
  | true => exact s_seq h
  | false => exact s_seq h
theorem zss_spoil {Q : Out → Nat → Prop} {ss : Ss} {i l : Nat} {t : T} (h : τ[i]? = some (some ⟨t, l + 2⟩)) (hs : t.spo3 = true) (hd : t.depth ≤ 6) (q : SAT Q W (evSs rp call ss (τ.set i none)) b) : SAT Q W (evSs rp call (.cons (.spoil i) ss) τ) b := by
  refine zss_cons ?_
  have e : evS rp call (.spoil i) τ = .ok (.nx (τ.set i none)) := by
    simp only [evS]
    rw [h]
    dsimp only
    rw [hs, Nat.ble_eq_true_of_le hd]
    rfl
  rw [e]
  exact ⟨q⟩
theorem fitss_ints (n : Nat) : ∀ X : List Int, fitss n (X.map .int) = true
  | [] => rfl
  | x :: X => fitss_ints n X
theorem mets_ints : ∀ X : List Int, mets (X.map .int) = 0
  | [] => rfl
  | x :: X => by show 0 + mets (X.map .int) = 0; rw [mets_ints X]
theorem fits_ints {n : Nat} {X : List Int} (h : X.length ≤ n) : (T.lst (X.map .int)).fits n = true := by
  show (Nat.ble (X.map T.int).length n && fitss n (X.map .int)) = true
  rw [fitss_ints, Nat.ble_eq_true_of_le (by rw [List.length_map]; exact h)]
  rfl
theorem met_ints (X : List Int) : (T.lst (X.map .int)).met = 1 := by
  show mets (X.map .int) + 1 = 1
  rw [mets_ints]
theorem depth_ints (X : List Int) : (T.lst (X.map .int)).depth = 1 := by
  show depths (X.map .int) + 1 = 1
  rw [depths_ints]
theorem spo3_two {x : T} (h : x.fits 10000000 = true) (hm : x.met ≤ 1000) : (T.lst [x, x]).spo3 = true := by
  show ((Nat.ble 2 10000000 && (x.fits 10000000 && (x.fits 10000000 && true))) && Nat.ble (x.met + (x.met + 0) + 1) 5000000) = true
  rw [h, Nat.ble_eq_true_of_le (show x.met + (x.met + 0) + 1 ≤ 5000000 by omega)]
  rfl
end
end TM

set_option Elab.async false
set_option linter.all false
set_option maxRecDepth 10000
set_option maxHeartbeats 400000
namespace Law
open PySem PySem.Spec L2 TM
abbrev li (A : List Int) : T := .lst (A.map .int)
def nxt (l : List Int) : Int := match l.getLast? with
  | some x => x + 1
  | none => 0
theorem lot_nil {h : Int} : Lot h [] := ⟨fun _ k => (nomatch k), .nil⟩
theorem nxt_app (l : List Int) (x : Int) : nxt (l ++ [x]) = x + 1 := by unfold nxt; rw [List.getLast?_append]; rfl
theorem lot_nxt {h : Int} {l : List Int} (H : Lot h l) : 0 ≤ nxt l ∧ ∀ x ∈ l, x < nxt l := by
  rcases List.eq_nil_or_concat l with rfl | ⟨m, z, rfl⟩
  · exact ⟨by decide, fun _ k => nomatch k⟩
  · rw [List.concat_eq_append] at H ⊢
    rw [nxt_app]
    have hz := H.1 z (List.mem_append_right _ List.mem_cons_self)
    refine ⟨by omega, fun x hx => ?_⟩
    rcases List.mem_append.1 hx with hx | hx
    · have := (List.pairwise_append.1 H.2).2.2 x hx z List.mem_cons_self
      omega
    · rw [List.mem_singleton.1 hx]; omega
theorem lot_app {h : Int} {l : List Int} {n : Int} (H : Lot h l) (h1 : nxt l ≤ n) (h2 : n < h) : Lot h (l ++ [n]) := by
  obtain ⟨p0, p⟩ := lot_nxt H
  refine ⟨fun x hx => ?_, List.pairwise_append.2 ⟨H.2, List.pairwise_singleton _ _, fun x hx y hy => ?_⟩⟩
  · rcases List.mem_append.1 hx with hx | hx
    · exact H.1 x hx
    · rw [List.mem_singleton.1 hx]; omega
  · rw [List.mem_singleton.1 hy]
    have := p x hx
    omega
theorem lot_up {l : List Int} {i j : Int} (H : Lot i l) (h : i ≤ j) : Lot j l := ⟨fun n hn => by have := H.1 n hn; omega, H.2⟩
theorem nxt_le {l : List Int} {i : Int} (h0 : 0 ≤ i) (H : Lot i l) : nxt l ≤ i := by
  rcases List.eq_nil_or_concat l with rfl | ⟨m, z, rfl⟩
  · exact h0
  · rw [List.concat_eq_append] at H ⊢
    rw [nxt_app]
    have hz := H.1 z (List.mem_append_right _ List.mem_cons_self)
    omega
theorem lot_nodup {h : Int} {l : List Int} (H : Lot h l) : l.Nodup := H.2.imp fun h => by omega
theorem nodup_le : ∀ {l m : List Int}, l.Nodup → (∀ x ∈ l, x ∈ m) → l.length ≤ m.length
  | [], _, _, _ => Nat.zero_le _
  | a :: l, m, nd, hs => by
    obtain ⟨h1, h2⟩ := List.nodup_cons.1 nd
    have ha := hs a List.mem_cons_self
    have := nodup_le (l := l) (m := m.erase a) h2 fun x hx => by
      have hne : x ≠ a := fun z => h1 (z ▸ hx)
      exact (List.mem_erase_of_ne hne).2 (hs x (List.mem_cons_of_mem _ hx))
    rw [List.length_erase_of_mem ha] at this
    have : 0 < m.length := List.length_pos_of_mem ha
    rw [List.length_cons]
    omega
def stp (h a c : Int) : Nat := ((c - a) % h).toNat
def st1 (h a : Int) (fs : List Int) (B : List Int) : List Int := B.foldl (fun f c => bump f (stp h a c)) fs
def stF (h : Int) (B : List Int) : List Int := B.foldl (fun f a => st1 h a f B) (List.replicate h.toNat 0)
theorem st1_len (h a : Int) : ∀ (B fs : List Int), (st1 h a fs B).length = fs.length
  | [], fs => rfl
  | c :: B, fs => by
    show (st1 h a (bump fs (stp h a c)) B).length = _
    rw [st1_len h a B, bump_len]
theorem stA_len (h : Int) (B : List Int) : ∀ (A fs : List Int), (A.foldl (fun f a => st1 h a f B) fs).length = fs.length
  | [], fs => rfl
  | a :: A, fs => by
    show (A.foldl (fun f a => st1 h a f B) (st1 h a fs B)).length = _
    rw [stA_len h B A, st1_len]
theorem stF_len {h : Int} {B : List Int} : (stF h B).length = h.toNat := by unfold stF; rw [stA_len, List.length_replicate]
theorem stp_ok {h : Int} (h1 : 1 ≤ h) (a c : Int) : ((stp h a c : Nat) : Int) = (c - a) % h ∧ stp h a c < h.toNat := by
  unfold stp
  have := Int.emod_nonneg (c - a) (show h ≠ 0 by omega)
  have := Int.emod_lt_of_pos (c - a) (show 0 < h by omega)
  omega
theorem st1_take {h a : Int} {fs B : List Int} {j : Nat} {c : Int} (hb : B[j]? = some c) : st1 h a fs (B.take (j + 1)) = bump (st1 h a fs (B.take j)) (stp h a c) := by
  unfold st1
  rw [List.take_add_one, hb, List.foldl_append]
  rfl
theorem bump_get {f : List Int} {p s : Nat} (hp : p < f.length) : (bump f p).getD s 0 = f.getD s 0 + if p = s then 1 else 0 := by
  unfold bump
  rw [List.getD_eq_getElem?_getD, List.getElem?_set]
  by_cases e : p = s
  · subst e
    rw [if_pos rfl, if_pos hp, if_pos rfl]
    rfl
  · rw [if_neg e, if_neg e, Int.add_zero, List.getD_eq_getElem?_getD]
theorem set_sum : ∀ (f : List Int) (p : Nat) (v : Int), p < f.length → (f.set p v).sum = f.sum + v - f.getD p 0
  | [], _, _, h => absurd h (Nat.not_lt_zero _)
  | x :: f, 0, v, _ => by
    show (v :: f).sum = (x :: f).sum + v - x
    rw [List.sum_cons, List.sum_cons]; omega
  | x :: f, p + 1, v, h => by
    have := set_sum f p v (by rw [List.length_cons] at h; omega)
    show (x :: f.set p v).sum = (x :: f).sum + v - f.getD p 0
    rw [List.sum_cons, List.sum_cons, this]; omega
theorem bump_sum {f : List Int} {p : Nat} (hp : p < f.length) : (bump f p).sum = f.sum + 1 := by
  unfold bump
  rw [set_sum f p _ hp]
  omega
section
variable {h : Int}
theorem st1_get (h1 : 1 ≤ h) (a : Int) (s : Nat) : ∀ (B f : List Int), f.length = h.toNat → (st1 h a f B).getD s 0 = f.getD s 0 + (B.countP fun c => decide (stp h a c = s) : Nat)
  | [], f, _ => by simp [st1]
  | c :: B, f, hf => by
    have hp := (stp_ok h1 a c).2
    show (st1 h a (bump f (stp h a c)) B).getD s 0 = _
    rw [st1_get h1 a s B _ (by rw [bump_len]; exact hf), bump_get (by omega), List.countP_cons]
    by_cases e : stp h a c = s
    · simp [e]; omega
    · simp [e]
def cS (h : Int) (A B : List Int) (s : Nat) : Nat := (A.map fun a => B.countP fun c => decide (stp h a c = s)).sum
theorem stA_get (h1 : 1 ≤ h) (B : List Int) (s : Nat) : ∀ (A f : List Int), f.length = h.toNat → (A.foldl (fun f a => st1 h a f B) f).getD s 0 = f.getD s 0 + (cS h A B s : Nat)
  | [], f, _ => by simp [cS]
  | a :: A, f, hf => by
    show (A.foldl (fun f a => st1 h a f B) (st1 h a f B)).getD s 0 = _
    rw [stA_get h1 B s A _ (by rw [st1_len]; exact hf), st1_get h1 a s B f hf]
    unfold cS
    rw [List.map_cons, List.sum_cons]
    omega
theorem stF_get (h1 : 1 ≤ h) (B : List Int) (s : Nat) : (stF h B).getD s 0 = (cS h B B s : Nat) := by
  unfold stF
  rw [stA_get h1 B s B _ (List.length_replicate ..)]
  have : (List.replicate h.toNat (0 : Int)).getD s 0 = 0 := by
    rw [List.getD_eq_getElem?_getD, List.getElem?_replicate]
    split <;> rfl
  omega
theorem st1_sum (h1 : 1 ≤ h) (a : Int) : ∀ (B f : List Int), f.length = h.toNat → (st1 h a f B).sum = f.sum + B.length
  | [], f, _ => by simp [st1]
  | c :: B, f, hf => by
    have hp := (stp_ok h1 a c).2
    show (st1 h a (bump f (stp h a c)) B).sum = _
    rw [st1_sum h1 a B _ (by rw [bump_len]; exact hf), bump_sum (by omega), List.length_cons]
    omega
theorem stA_sum (h1 : 1 ≤ h) (B : List Int) : ∀ (A f : List Int), f.length = h.toNat → (A.foldl (fun f a => st1 h a f B) f).sum = f.sum + (A.length * B.length : Nat)
  | [], f, _ => by simp
  | a :: A, f, hf => by
    show (A.foldl (fun f a => st1 h a f B) (st1 h a f B)).sum = _
    rw [stA_sum h1 B A _ (by rw [st1_len]; exact hf), st1_sum h1 a B f hf, List.length_cons, Nat.succ_mul]
    omega
theorem stF_sum (h1 : 1 ≤ h) (B : List Int) : (stF h B).sum = (B.length * B.length : Nat) := by
  unfold stF
  rw [stA_sum h1 B B _ (List.length_replicate ..)]
  have : ∀ n, (List.replicate n (0 : Int)).sum = 0 := by
    intro n
    induction n with
    | zero => rfl
    | succ n ih => rw [List.replicate_succ, List.sum_cons, ih]; rfl
  rw [this]
  omega
theorem nat_sum_pos : ∀ {l : List Nat}, l.sum ≠ 0 ↔ ∃ x ∈ l, x ≠ 0
  | [] => by simp
  | x :: l => by
    rw [List.sum_cons]
    constructor
    · intro hs
      by_cases hx : x = 0
      · obtain ⟨y, hy, h0⟩ := nat_sum_pos (l := l) |>.1 (by omega)
        exact ⟨y, List.mem_cons_of_mem _ hy, h0⟩
      · exact ⟨x, List.mem_cons_self, hx⟩
    · rintro ⟨y, hy, h0⟩
      rcases List.mem_cons.1 hy with rfl | hy
      · omega
      · have := (nat_sum_pos (l := l)).2 ⟨y, hy, h0⟩
        omega
theorem cS_pos {A B : List Int} {s : Nat} : cS h A B s ≠ 0 ↔ ∃ a ∈ A, ∃ c ∈ B, stp h a c = s := by
  unfold cS
  rw [nat_sum_pos]
  constructor
  · rintro ⟨x, hx, h0⟩
    obtain ⟨a, ha, rfl⟩ := List.mem_map.1 hx
    obtain ⟨c, hc, hp⟩ := List.countP_pos_iff.1 (Nat.pos_of_ne_zero h0)
    exact ⟨a, ha, c, hc, of_decide_eq_true hp⟩
  · rintro ⟨a, ha, c, hc, e⟩
    exact ⟨_, List.mem_map.2 ⟨a, ha, rfl⟩, Nat.pos_iff_ne_zero.1 (List.countP_pos_iff.2 ⟨c, hc, decide_eq_true e⟩)⟩
end
theorem ones_le : ∀ {xs : List Int}, (∀ x ∈ xs, 1 ≤ x) → (xs.length : Int) ≤ xs.sum ∧ ((xs.length : Int) = xs.sum ↔ ∀ x ∈ xs, x = 1)
  | [], _ => by simp
  | x :: xs, hx => by
    obtain ⟨h1, h2⟩ := ones_le (xs := xs) fun y hy => hx y (List.mem_cons_of_mem _ hy)
    have h0 := hx x List.mem_cons_self
    rw [List.length_cons, List.sum_cons]
    refine ⟨by omega, ?_⟩
    constructor
    · intro e y hy
      rcases List.mem_cons.1 hy with rfl | hy
      · omega
      · exact h2.1 (by omega) y hy
    · intro ha
      have a1 := ha x List.mem_cons_self
      have a2 := h2.2 fun y hy => ha y (List.mem_cons_of_mem _ hy)
      omega
theorem cS_0 {h : Nat} (h1 : 1 ≤ h) {l : List Int} (H : Lot h l) : cS h l l 0 = l.length := by
  have key : ∀ m : List Int, (∀ a ∈ m, a ∈ l) → (m.map fun a => l.countP fun c => decide (stp h a c = 0)).sum = m.length := by
    intro m
    induction m with
    | nil => intro _; rfl
    | cons a m ih =>
      intro hm
      have ha := hm a List.mem_cons_self
      have e : (l.countP fun c => decide (stp h a c = 0)) = l.count a := by
        unfold List.count
        refine List.countP_congr fun c hc => ?_
        rw [decide_eq_true_eq, beq_iff_eq]
        have ra := H.1 a ha
        have rc := H.1 c hc
        have := (stp_ok (h := h) (by omega) a c).1
        constructor
        · intro e
          rw [e] at this
          have hd := Int.dvd_of_emod_eq_zero this.symm
          obtain ⟨q, hq⟩ := hd
          have : q = 0 := by
            rcases Int.lt_trichotomy q 0 with hq0 | hq0 | hq0
            · have : (h : Int) * q ≤ h * (-1) := Int.mul_le_mul_of_nonneg_left (by omega) (by omega)
              omega
            · exact hq0
            · have : (h : Int) * 1 ≤ h * q := Int.mul_le_mul_of_nonneg_left (by omega) (by omega)
              omega
          rw [this] at hq
          omega
        · rintro rfl
          rw [Int.sub_self, Int.zero_emod] at this
          omega
      rw [List.map_cons, List.sum_cons, ih fun x hx => hm x (List.mem_cons_of_mem _ hx), e, List.length_cons, (lot_nodup H).count, if_pos ha]
      omega
  exact key l fun _ h => h
end Law

set_option Elab.async false
set_option linter.all false
set_option maxRecDepth 10000
set_option maxHeartbeats 400000
namespace Law
open PySem PySem.Spec L2 TM
section
variable {rp : T → Str} {k : Nat} {W : Nat → T → Nat → Prop}
section
variable {call : Nat → List T → R Val} {τ : TM.Env}
theorem hideFrom_len (fz : List Nat) : ∀ (n : Nat) (τ : TM.Env), (hideFrom fz n τ).length = τ.length
  | _, [] => rfl
  | n, o :: τ => congrArg (· + 1) (hideFrom_len fz (n + 1) τ)
theorem hide_len (fz : List Nat) (τ : TM.Env) : (hide fz τ).length = τ.length := hideFrom_len fz 0 τ
theorem rng2_ok {e e' : TM.E} {m n l l' : Nat} (h : evE rp call e τ = .ok ⟨.int m, l⟩) (h' : evE rp call e' τ = .ok ⟨.int n, l'⟩) (hm : m ≤ 1000000) (hn : n ≤ 1000000) : evI rp call (.rng2 e e') τ = .ok (rngT (m : Int) (n - m)) := by
  simp only [evI]
  rw [h, h', ok_bind, ok_bind]
  dsimp only
  rw [if_pos (by omega)]
  congr 2
  omega
theorem i_seqS {Q : List T → Nat → Prop} {e : TM.E} {b : Nat} (h : SAT (fun v b1 => ∃ xs, v.t = .lst xs ∧ Q xs b1) W (evE rp call e τ) b) : SAT Q W (evI rp call (.seq e) τ) b := by
  simp only [evI]
  refine s_seq (h.imp fun v b1 ⟨xs, e, q⟩ => ?_)
  rw [e]
  exact ⟨q⟩
theorem zss_forS {Q : Out → Nat → Prop} {tg : Tg} {it : TM.It} {bd ss : Ss} {fz : List Nat} {b : Nat} (h : SAT (fun xs b1 => SAT (goOn rp call W Q ss) W (forT (fun x τ => setTg tg x.rd τ >>= fun τ' => evSs rp call bd τ') xs (frz fz τ)) b1) W (evI rp call it (hide fz τ)) b) : SAT Q W (evSs rp call (.cons (.for tg it bd fz) ss) τ) b := by
  refine zss_cons ?_
  simp only [evS]
  exact s_seq h
theorem zss_whl {call : Nat → List T → R Val} {τ : TM.Env} {b : Nat} {Q : Out → Nat → Prop} {n m : Nat} {c : TM.E} {bd ss : Ss} (I : Nat → TM.Env → Nat → Prop) (hm : m < n) (h0 : I m τ b)
    (hs : ∀ m τ b, I m τ b → SAT (fun v b1 => ∃ r : Bool, v.t = .bl r ∧ if r = true then SAT (fun o b2 => match o with | .nx τ' => ∃ m', m' < m ∧ I m' τ' b2 | .bk _ => False | .rt _ => False) W (evSs rp call bd τ) b1 else SAT Q W (evSs rp call ss τ) b1) W (evE rp call c τ) b) : SAT Q W (evSs rp call (.cons (.whl n c bd) ss) τ) b := by
  refine zss_cons ?_
  have e : evS rp call (.whl n c bd) τ = whlT (fun τ => evE rp call c τ >>= fun v => truthy v.t) (fun τ => evSs rp call bd τ) n τ := by simp only [evS]
  rw [e]
  refine ⟨sat_whl I (fun m τ b hi => ?_) hm h0⟩
  refine sat_seq ((hs m τ b hi).h.imp (fun v b1 ⟨r, e, q⟩ => ?_) fun _ _ _ z => z)
  rw [e]
  cases r with
  | true =>
    have q : SAT (fun o b2 => match o with | .nx τ' => ∃ m', m' < m ∧ I m' τ' b2 | .bk _ => False | .rt _ => False) W (evSs rp call bd τ) b1 := q
    refine q.h.imp (fun o b2 ho => ?_) fun _ _ _ z => z
    cases o with
    | nx τ' => exact ho
    | rt v => exact ho.elim
    | bk τ' => exact ho.elim
  | false => exact q
end
theorem li_inj {a b : List Int} (h : li a = li b) : a = b := by
  have h : a.map T.int = b.map T.int := by injection h
  exact List.map_inj_right (fun x y e => by injection e) |>.1 h
theorem isdats_lis : ∀ xs : List (List Int), isdats (xs.map li) = true
  | [] => rfl
  | x :: xs => by
    show (isdats (x.map T.int) && isdats (xs.map li)) = true
    rw [isdats_ints, isdats_lis xs]; rfl
theorem depths_lis : ∀ xs : List (List Int), depths (xs.map li) ≤ 1
  | [] => by decide
  | x :: xs => by
    show max (depths (x.map T.int) + 1) (depths (xs.map li)) ≤ 1
    rw [depths_ints]
    have := depths_lis xs
    omega
theorem map_getL {ns : List (List Int)} {j : Nat} {x : T} (h : (ns.map li)[j]? = some x) : ∃ n, ns[j]? = some n ∧ x = li n ∧ n ∈ ns := by
  rw [List.getElem?_map] at h
  cases hq : ns[j]? with
  | none => rw [hq] at h; cases h
  | some n => rw [hq] at h; cases h; exact ⟨n, rfl, rfl, List.mem_of_getElem? hq⟩
end
end Law

set_option Elab.async false
set_option linter.all false
set_option maxRecDepth 10000
set_option maxHeartbeats 400000
/-! Freiman's bound for lots of at most eight numbers -/
namespace FR
def Sm (bs : List Int) (x : Int) : Prop := ∃ a ∈ bs, ∃ b ∈ bs, x = a + b
/-- there are m sums at least -/
def NS (bs : List Int) (m : Nat) : Prop := ∃ L : List Int, L.Nodup ∧ (∀ x ∈ L, Sm bs x) ∧ m ≤ L.length
abbrev Srt (bs : List Int) : Prop := bs.Pairwise (· < ·)
theorem Sm.up {cs bs : List Int} (h : ∀ x ∈ cs, x ∈ bs) {x : Int} : Sm cs x → Sm bs x := fun ⟨a, ha, b, hb, e⟩ => ⟨a, h a ha, b, h b hb, e⟩
theorem NS.le {bs : List Int} {m n : Nat} (h : n ≤ m) : NS bs m → NS bs n := fun ⟨L, a, b, c⟩ => ⟨L, a, b, by omega⟩
theorem ns_ext {cs bs E : List Int} {m : Nat} (hs : ∀ x ∈ cs, x ∈ bs) (H : NS cs m) (nd : E.Nodup) (hE : ∀ x ∈ E, Sm bs x ∧ ¬ Sm cs x) : NS bs (m + E.length) := by
  obtain ⟨L, a, b, c⟩ := H
  refine ⟨L ++ E, List.nodup_append.2 ⟨a, nd, fun x hx y hy e => ?_⟩, fun x hx => ?_, by rw [List.length_append]; omega⟩
  · subst e
    exact (hE x hy).2 (b x hx)
  · rcases List.mem_append.1 hx with h | h
    · exact (b x h).up hs
    · exact (hE x h).1
theorem srt_nodup {bs : List Int} (h : Srt bs) : bs.Nodup := h.imp fun h => by omega
theorem srt_head {a : Int} {bs : List Int} (h : Srt (a :: bs)) : ∀ x ∈ bs, a < x := (List.pairwise_cons.1 h).1
theorem srt_tail {a : Int} {bs : List Int} (h : Srt (a :: bs)) : Srt bs := (List.pairwise_cons.1 h).2
theorem triv : ∀ {bs : List Int}, Srt bs → bs ≠ [] → NS bs (2 * bs.length - 1)
  | [], _, h => absurd rfl h
  | [a], _, _ => ⟨[a + a], by simp, fun x hx => by rw [List.mem_singleton.1 hx]; exact ⟨a, List.mem_cons_self, a, List.mem_cons_self, rfl⟩, by simp⟩
  | a :: b :: r, h, _ => by
    have ih := triv (srt_tail h) (fun z => nomatch z)
    have hab := srt_head h b List.mem_cons_self
    have hmin : ∀ x ∈ b :: r, b ≤ x := fun x hx => by
      rcases List.mem_cons.1 hx with rfl | hx
      · exact Int.le_refl _
      · have := srt_head (srt_tail h) x hx; omega
    have e := ns_ext (bs := a :: b :: r) (E := [a + a, a + b]) (fun x hx => List.mem_cons_of_mem _ hx) ih (by simp; omega) fun x hx => by
      have hx : x = a + a ∨ x = a + b := by simpa using hx
      refine ⟨?_, ?_⟩
      · rcases hx with rfl | rfl
        · exact ⟨a, by simp, a, by simp, rfl⟩
        · exact ⟨a, by simp, b, by simp, rfl⟩
      · rintro ⟨u, hu, v, hv, e⟩
        have := hmin u hu
        have := hmin v hv
        rcases hx with rfl | rfl <;> omega
    refine NS.le ?_ e
    simp only [List.length_cons, List.length_nil]
    omega
theorem nodup_le : ∀ {l m : List Int}, l.Nodup → (∀ x ∈ l, x ∈ m) → l.length ≤ m.length
  | [], _, _, _ => Nat.zero_le _
  | a :: l, m, nd, hs => by
    obtain ⟨h1, h2⟩ := List.nodup_cons.1 nd
    have ha := hs a List.mem_cons_self
    have := nodup_le (l := l) (m := m.erase a) h2 fun x hx => by
      have hne : x ≠ a := fun z => h1 (z ▸ hx)
      exact (List.mem_erase_of_ne hne).2 (hs x (List.mem_cons_of_mem _ hx))
    rw [List.length_erase_of_mem ha] at this
    have : 0 < m.length := List.length_pos_of_mem ha
    rw [List.length_cons]
    omega
/-- the numbers from a on, n of them -/
def rg (a : Int) (n : Nat) : List Int := (List.range n).map fun i : Nat => a + i
theorem rg_len (a : Int) (n : Nat) : (rg a n).length = n := by unfold rg; rw [List.length_map, List.length_range]
theorem mem_rg {a x : Int} {n : Nat} : x ∈ rg a n ↔ a ≤ x ∧ x < a + n := by
  unfold rg
  rw [List.mem_map]
  constructor
  · rintro ⟨i, hi, rfl⟩
    rw [List.mem_range] at hi
    omega
  · rintro ⟨h1, h2⟩
    exact ⟨(x - a).toNat, by rw [List.mem_range]; omega, by omega⟩
theorem rg_nodup (a : Int) (n : Nat) : (rg a n).Nodup := by
  unfold rg List.Nodup
  rw [List.pairwise_map]
  exact List.pairwise_lt_range.imp fun h => by omega
theorem filter_two (p : Int → Bool) : ∀ l : List Int, (l.filter p).length + (l.filter fun x => !p x).length = l.length
  | [] => rfl
  | x :: l => by
    have := filter_two p l
    cases h : p x with
    | true => rw [List.filter_cons_of_pos h, List.filter_cons_of_neg (by simp [h])]; simp only [List.length_cons]; omega
    | false => rw [List.filter_cons_of_neg (by simp [h]), List.filter_cons_of_pos (by simp [h])]; simp only [List.length_cons]; omega
theorem map_nodup {f : Int → Int} {l : List Int} (h : l.Nodup) (hf : ∀ x ∈ l, ∀ y ∈ l, f x = f y → x = y) : (l.map f).Nodup := by
  induction l with
  | nil => exact .nil
  | cons a l ih =>
    obtain ⟨h1, h2⟩ := List.nodup_cons.1 h
    rw [List.map_cons, List.nodup_cons]
    refine ⟨fun hm => ?_, ih h2 fun x hx y hy => hf x (List.mem_cons_of_mem _ hx) y (List.mem_cons_of_mem _ hy)⟩
    obtain ⟨y, hy, e⟩ := List.mem_map.1 hm
    have := hf y (List.mem_cons_of_mem _ hy) a List.mem_cons_self e
    exact h1 (this ▸ hy)
/-- within a short stretch -/
theorem part1 {a z : Int} {r : List Int} (h : Srt (a :: r)) (hz : z ∈ r) (hmax : ∀ x ∈ r, x ≤ z) {k : Nat} (hk : (a :: r).length = k) (hl : z - a ≤ 2 * k - 3) : NS (a :: r) (k + (z - a).toNat) := by
  classical
  have haz := srt_head h z hz
  have hr : ∀ x ∈ r, a < x ∧ x ≤ z := fun x hx => ⟨srt_head h x hx, hmax x hx⟩
  have nr := srt_nodup (srt_tail h)
  have hkr : r.length + 1 = k := by rw [← hk]; rfl
  have mem : ∀ n : Int, a < n → n < z → n ∉ a :: r → Sm (a :: r) (a + n) ∨ Sm (a :: r) (z + n) := fun n n1 n2 hn => by
    refine Classical.byContradiction fun hne => ?_
    have h1 : ¬ Sm (a :: r) (a + n) := fun q => hne (.inl q)
    have h2 : ¬ Sm (a :: r) (z + n) := fun q => hne (.inr q)
    let σ : Int → Int := fun i => if i < n then a + n - i else z + n - i
    have hni : ∀ i ∈ r, i ≠ n := fun i hi e => hn (e ▸ List.mem_cons_of_mem _ hi)
    have hσ : ∀ i ∈ r, a < σ i ∧ σ i ≤ z ∧ σ i ∉ r := fun i hi => by
      have h3 := hr i hi
      have h4 := hni i hi
      show a < (if i < n then a + n - i else z + n - i) ∧ (if i < n then a + n - i else z + n - i) ≤ z ∧ (if i < n then a + n - i else z + n - i) ∉ r
      split
      · refine ⟨by omega, by omega, fun q => h1 ⟨i, List.mem_cons_of_mem _ hi, _, List.mem_cons_of_mem _ q, by omega⟩⟩
      · refine ⟨by omega, by omega, fun q => h2 ⟨i, List.mem_cons_of_mem _ hi, _, List.mem_cons_of_mem _ q, by omega⟩⟩
    have nd : (r.map σ ++ r).Nodup := List.nodup_append.2 ⟨map_nodup nr fun x hx y hy e => by
      have h3 := hr x hx
      have h4 := hni x hx
      have h5 := hr y hy
      have h6 := hni y hy
      have e : (if x < n then a + n - x else z + n - x) = if y < n then a + n - y else z + n - y := e
      split at e <;> split at e <;> omega, nr, fun x hx y hy e => by
      obtain ⟨i, hi, rfl⟩ := List.mem_map.1 hx
      exact (hσ i hi).2.2 (e ▸ hy)⟩
    have := nodup_le nd (m := rg (a + 1) (z - a).toNat) fun x hx => by
      rw [mem_rg]
      rcases List.mem_append.1 hx with hx | hx
      · obtain ⟨i, hi, rfl⟩ := List.mem_map.1 hx
        have := hσ i hi
        omega
      · have := hr x hx
        omega
    rw [List.length_append, List.length_map, rg_len] at this
    omega
  let holes := (rg a ((z - a).toNat + 1)).filter fun x => !decide (x ∈ a :: r)
  have hh : ∀ n ∈ holes, a < n ∧ n < z ∧ n ∉ a :: r := fun n hn => by
    obtain ⟨h1, h2⟩ := List.mem_filter.1 hn
    rw [mem_rg] at h1
    have h2 : n ∉ a :: r := by simpa using h2
    refine ⟨?_, ?_, h2⟩
    · rcases Int.lt_or_le a n with q | q
      · exact q
      · exact absurd (show n ∈ a :: r from by rw [show n = a from by omega]; exact List.mem_cons_self) h2
    · rcases Int.lt_or_le n z with q | q
      · exact q
      · exact absurd (show n ∈ a :: r from by rw [show n = z from by omega]; exact List.mem_cons_of_mem _ hz) h2
  have hhl : (z - a).toNat + 1 ≤ k + holes.length := by
    have e := filter_two (fun x => decide (x ∈ a :: r)) (rg a ((z - a).toNat + 1))
    rw [rg_len] at e
    have e2 := nodup_le (l := (rg a ((z - a).toNat + 1)).filter fun x => decide (x ∈ a :: r)) (m := a :: r) ((rg_nodup _ _).filter _) fun x hx => of_decide_eq_true (List.mem_filter.1 hx).2
    rw [hk] at e2
    show _ ≤ k + ((rg a ((z - a).toNat + 1)).filter fun x => !decide (x ∈ a :: r)).length
    omega
  have hnd : holes.Nodup := (rg_nodup _ _).filter _
  generalize holes = hs at hh hhl hnd
  let τ : Int → Int := fun n => if Sm (a :: r) (a + n) then a + n else z + n
  refine ⟨(a :: r).map (fun x => a + x) ++ (r.map (fun x => z + x) ++ hs.map τ), ?_, fun x hx => ?_, ?_⟩
  · have hτ : ∀ n ∈ hs, ∀ x ∈ a :: r, τ n ≠ a + x := fun n hn x hx e => by
      obtain ⟨n1, n2, n3⟩ := hh n hn
      have hx1 : x ≤ z := by rcases List.mem_cons.1 hx with rfl | q; omega; exact (hr x q).2
      have e : (if Sm (a :: r) (a + n) then a + n else z + n) = a + x := e
      split at e
      · exact n3 (by rw [show n = x from by omega]; exact hx)
      · omega
    have hτ2 : ∀ n ∈ hs, ∀ x ∈ r, τ n ≠ z + x := fun n hn x hx e => by
      obtain ⟨n1, n2, n3⟩ := hh n hn
      have hx1 := hr x hx
      have e : (if Sm (a :: r) (a + n) then a + n else z + n) = z + x := e
      split at e
      · omega
      · exact n3 (by rw [show n = x from by omega]; exact List.mem_cons_of_mem _ hx)
    refine List.nodup_append.2 ⟨map_nodup (srt_nodup h) fun x _ y _ e => by omega, List.nodup_append.2 ⟨map_nodup nr fun x _ y _ e => by omega, map_nodup hnd fun x hx y hy e => ?_, fun x hx y hy e => ?_⟩, fun x hx y hy e => ?_⟩
    · have h3 := hh x hx
      have h4 := hh y hy
      have e : (if Sm (a :: r) (a + x) then a + x else z + x) = if Sm (a :: r) (a + y) then a + y else z + y := e
      split at e <;> split at e <;> omega
    · obtain ⟨u, hu, rfl⟩ := List.mem_map.1 hx
      obtain ⟨n, hn, rfl⟩ := List.mem_map.1 hy
      exact hτ2 n hn u hu e.symm
    · obtain ⟨u, hu, rfl⟩ := List.mem_map.1 hx
      rcases List.mem_append.1 hy with hy | hy
      · obtain ⟨w, hw, rfl⟩ := List.mem_map.1 hy
        have hx1 : u ≤ z := by rcases List.mem_cons.1 hu with rfl | q; omega; exact (hr u q).2
        have := hr w hw
        omega
      · obtain ⟨n, hn, rfl⟩ := List.mem_map.1 hy
        exact hτ n hn u hu e.symm
  · rcases List.mem_append.1 hx with hx | hx
    · obtain ⟨u, hu, rfl⟩ := List.mem_map.1 hx
      exact ⟨a, List.mem_cons_self, u, hu, rfl⟩
    · rcases List.mem_append.1 hx with hx | hx
      · obtain ⟨u, hu, rfl⟩ := List.mem_map.1 hx
        exact ⟨z, List.mem_cons_of_mem _ hz, u, List.mem_cons_of_mem _ hu, rfl⟩
      · obtain ⟨n, hn, rfl⟩ := List.mem_map.1 hx
        obtain ⟨n1, n2, n3⟩ := hh n hn
        show Sm (a :: r) (if Sm (a :: r) (a + n) then a + n else z + n)
        split
        · assumption
        · rename_i q
          exact (mem n n1 n2 n3).resolve_left q
  · rw [List.length_append, List.length_append, List.length_map, List.length_map, List.length_map, List.length_cons]
    omega
end FR

set_option Elab.async false
set_option linter.all false
set_option maxRecDepth 10000
set_option maxHeartbeats 400000
namespace FR
/-- no common step but one -/
def Gc (a : Int) (bs : List Int) : Prop := ∀ d : Int, 1 ≤ d → (∀ x ∈ bs, d ∣ x - a) → d = 1
/-- grows by sums of two -/
def Gr (a : Int) (bs : List Int) : Prop := a + 1 ∈ bs ∧ ∀ x ∈ bs, a + 2 ≤ x → ∃ u ∈ bs, ∃ v ∈ bs, a < u ∧ a < v ∧ a + x = u + v
/-! ### the small ones, one by one -/
def allSub : List Int → List (List Int)
  | [] => [[]]
  | x :: xs => allSub xs ++ (allSub xs).map (x :: ·)
theorem mem_allSub : ∀ {xs l : List Int}, l.Sublist xs → l ∈ allSub xs
  | _, _, .slnil => List.mem_singleton.2 rfl
  | _, _, .cons x h => List.mem_append_left _ (mem_allSub h)
  | _, _, .cons_cons x h => List.mem_append_right _ (List.mem_map.2 ⟨_, mem_allSub h, rfl⟩)
theorem sub_rg : ∀ (n : Nat) {lo : Int} {l : List Int}, Srt l → (∀ x ∈ l, lo ≤ x ∧ x < lo + n) → l.Sublist (rg lo n)
  | 0, lo, l, _, h => by
    cases l with
    | nil => exact List.nil_sublist _
    | cons x l => have := h x List.mem_cons_self; omega
  | n + 1, lo, l, hs, h => by
    have e : rg lo (n + 1) = lo :: rg (lo + 1) n := by
      unfold rg
      rw [List.range_succ_eq_map, List.map_cons, List.map_map]
      congr 1
      · simp
      · exact List.map_congr_left fun i _ => by show lo + ((i + 1 : Nat) : Int) = lo + 1 + i; omega
    rw [e]
    cases l with
    | nil => exact List.nil_sublist _
    | cons x l =>
      have hx := h x List.mem_cons_self
      have hl := srt_head hs
      by_cases hxl : x = lo
      · subst hxl
        exact .cons_cons _ (sub_rg n (srt_tail hs) fun y hy => by have := hl y hy; have := h y (List.mem_cons_of_mem _ hy); omega)
      · refine .cons _ (sub_rg n hs fun y hy => ?_)
        have := h y hy
        rcases List.mem_cons.1 hy with rfl | q
        · omega
        · have := hl y q; omega
/-- the sums as bits -/
def msk : List Int → Nat
  | [] => 0
  | x :: xs => (1 <<< x.toNat) ||| msk xs
def smk (m : Nat) : List Int → Nat
  | [] => 0
  | x :: xs => (m <<< x.toNat) ||| smk m xs
def pc : Nat → Nat → Nat
  | 0, _ => 0
  | f + 1, m => m % 2 + pc f (m / 2)
theorem msk_bit {i : Nat} : ∀ {xs : List Int}, (∀ x ∈ xs, 0 ≤ x) → (msk xs).testBit i = true → (i : Int) ∈ xs
  | [], _, h => by simp [msk] at h
  | x :: xs, h0, h => by
    have h : (((1 <<< x.toNat) ||| msk xs).testBit i) = true := h
    rw [Nat.testBit_or, Bool.or_eq_true] at h
    rcases h with h | h
    · rw [Nat.testBit_shiftLeft] at h
      simp at h
      have h2 := h.2
      have : i - x.toNat = 0 := by
        rcases Nat.eq_zero_or_pos (i - x.toNat) with q | q
        · exact q
        · have : Nat.testBit 1 (i - x.toNat) = false := by
            cases hq : i - x.toNat with
            | zero => omega
            | succ n => rw [Nat.testBit_succ]; simp
          simp_all
      have := h0 x List.mem_cons_self
      rw [show (i : Int) = x from by omega]
      exact List.mem_cons_self
    · exact List.mem_cons_of_mem _ (msk_bit (fun y hy => h0 y (List.mem_cons_of_mem _ hy)) h)
theorem smk_bit {bs : List Int} (hb : ∀ x ∈ bs, 0 ≤ x) {i : Nat} : ∀ {xs : List Int}, (∀ x ∈ xs, 0 ≤ x) → (∀ x ∈ xs, x ∈ bs) → (smk (msk bs) xs).testBit i = true → Sm bs i
  | [], _, _, h => by simp [smk] at h
  | x :: xs, h0, hs, h => by
    have h : (((msk bs) <<< x.toNat ||| smk (msk bs) xs).testBit i) = true := h
    rw [Nat.testBit_or, Bool.or_eq_true] at h
    rcases h with h | h
    · rw [Nat.testBit_shiftLeft, Bool.and_eq_true] at h
      have h1 : x.toNat ≤ i := by simpa using h.1
      have h2 := msk_bit hb h.2
      have := h0 x List.mem_cons_self
      exact ⟨x, hs x List.mem_cons_self, _, h2, by omega⟩
    · exact smk_bit hb (fun y hy => h0 y (List.mem_cons_of_mem _ hy)) (fun y hy => hs y (List.mem_cons_of_mem _ hy)) h
/-- bits that stand, as a list -/
theorem pc_list : ∀ (f m k : Nat), ∃ L : List Int, L.Nodup ∧ (∀ x ∈ L, (k : Int) ≤ x ∧ ∃ i : Nat, x = (k + i : Nat) ∧ m.testBit i = true) ∧ L.length = pc f m
  | 0, m, k => ⟨[], .nil, (fun _ h => nomatch h), rfl⟩
  | f + 1, m, k => by
    obtain ⟨L, a, b, c⟩ := pc_list f (m / 2) (k + 1)
    have step : ∀ x ∈ L, (k : Int) ≤ x ∧ ∃ i : Nat, x = (k + i : Nat) ∧ m.testBit i = true := fun x hx => by
      obtain ⟨h1, i, e, h2⟩ := b x hx
      refine ⟨by omega, i + 1, by omega, ?_⟩
      rw [Nat.testBit_succ]; exact h2
    have hm := Nat.mod_two_eq_zero_or_one m
    rcases hm with hm | hm
    · exact ⟨L, a, step, by show _ = m % 2 + pc f (m / 2); omega⟩
    · refine ⟨(k : Int) :: L, List.nodup_cons.2 ⟨fun h => ?_, a⟩, fun x hx => ?_, by show L.length + 1 = m % 2 + pc f (m / 2); omega⟩
      · have := (b _ h).1; omega
      · rcases List.mem_cons.1 hx with rfl | hx
        · exact ⟨Int.le_refl _, 0, by simp, by rw [Nat.testBit_zero]; simp [hm]⟩
        · exact step x hx
theorem ns_pc {bs : List Int} (hb : ∀ x ∈ bs, 0 ≤ x) (f : Nat) : NS bs (pc f (smk (msk bs) bs)) := by
  obtain ⟨L, a, b, c⟩ := pc_list f (smk (msk bs) bs) 0
  refine ⟨L, a, fun x hx => ?_, by omega⟩
  obtain ⟨_, i, e, h⟩ := b x hx
  have := smk_bit hb hb (fun _ h => h) h
  rw [e, Nat.zero_add]
  exact this
/-- cs: nought and so on to l'; moved by d, nought before it -/
def chk (r : List Int) : Bool :=
  let k := r.length + 1
  let l := (0 :: r).getLast (fun h => nomatch h)
  decide (7 < k) || (decide (2 * (k : Int) - 3 < l) || (rg (2 * k - l) (2 * l + 1 - 2 * k).toNat).all fun d => decide (3 * k ≤ pc 50 (smk (msk (0 :: (0 :: r).map fun x => x + d)) (0 :: (0 :: r).map fun x => x + d))))
def chkAll : Bool := (allSub (rg 1 11)).all chk
theorem chk_all : chkAll = true := by decide +kernel
end FR

set_option Elab.async false
set_option linter.all false
set_option maxRecDepth 10000
set_option maxHeartbeats 400000
namespace FR
theorem ns_map {cs bs : List Int} {m : Nat} {g c : Int} (hg : g ≠ 0) (h : ∀ x ∈ cs, g * x + c ∈ bs) : NS cs m → NS bs m := fun ⟨L, a, b, e⟩ => by
  refine ⟨L.map fun y => g * y + (c + c), map_nodup a fun x _ y _ e => ?_, fun x hx => ?_, by rw [List.length_map]; exact e⟩
  · exact Int.eq_of_mul_eq_mul_left hg (by omega)
  · obtain ⟨y, hy, rfl⟩ := List.mem_map.1 hx
    obtain ⟨u, hu, v, hv, rfl⟩ := b y hy
    exact ⟨_, h u hu, _, h v hv, by rw [Int.mul_add]; omega⟩
theorem srt_last : ∀ {xs : List Int} (hs : Srt xs) (h : xs ≠ []), ∀ x ∈ xs, x ≤ xs.getLast h
  | [], _, h, _, _ => absurd rfl h
  | [a], _, _, x, hx => by rw [List.mem_singleton.1 hx]; exact Int.le_refl _
  | a :: b :: r, hs, h, x, hx => by
    have ih := srt_last (srt_tail hs) (List.cons_ne_nil b r)
    rw [List.getLast_cons (List.cons_ne_nil b r)]
    rcases List.mem_cons.1 hx with rfl | hx
    · have := ih b List.mem_cons_self
      have := srt_head hs b List.mem_cons_self
      omega
    · exact ih x hx
theorem step {a b z : Int} {r : List Int} (h : Srt (a :: b :: r)) (hG : Gc a (a :: b :: r)) (hz : z ∈ b :: r) (hmax : ∀ x ∈ b :: r, x ≤ z) {k : Nat} (hk : (b :: r).length = k) (hk7 : k ≤ 7) (hl : 2 * (k : Int) ≤ z - a)
    (ih : Gc b (b :: r) → 2 * (k : Int) - 2 ≤ z - b → NS (b :: r) (3 * k - 3)) : NS (a :: b :: r) (3 * k) ∨ Gr a (a :: b :: r) := by
  classical
  have hk1 : 1 ≤ k := by rw [← hk, List.length_cons]; omega
  have hcs : ∀ x ∈ b :: r, a < x := srt_head h
  have hmin : ∀ x ∈ b :: r, b ≤ x := fun x hx => by
    rcases List.mem_cons.1 hx with rfl | hx
    · exact Int.le_refl _
    · have := srt_head (srt_tail h) x hx; omega
  have hin : ∀ x ∈ b :: r, x ∈ a :: b :: r := fun x hx => List.mem_cons_of_mem _ hx
  have full : (∀ x ∈ b :: r, ¬ Sm (b :: r) (a + x)) → NS (a :: b :: r) (3 * k) := fun hno => by
    have e := ns_ext (E := (a :: b :: r).map fun x => a + x) hin (triv (srt_tail h) (fun z => nomatch z)) (map_nodup (srt_nodup h) fun x _ y _ e => by omega) fun x hx => by
      obtain ⟨y, hy, rfl⟩ := List.mem_map.1 hx
      refine ⟨⟨a, List.mem_cons_self, y, hy, rfl⟩, ?_⟩
      rcases List.mem_cons.1 hy with rfl | hy
      · rintro ⟨u, hu, v, hv, e⟩
        have := hcs u hu
        have := hcs v hv
        omega
      · exact hno y hy
    refine NS.le ?_ e
    rw [List.length_map, show (a :: b :: r).length = k + 1 from by rw [← hk]; rfl, hk]
    omega
  by_cases hc : Gc b (b :: r)
  · by_cases hlb : 2 * (k : Int) - 2 ≤ z - b
    · have hns := ih hc hlb
      by_cases hbad : ∃ x ∈ b :: r, x ≠ b ∧ ¬ Sm (b :: r) (a + x)
      · obtain ⟨x, hx, hxb, hnx⟩ := hbad
        left
        have hbx := hmin x hx
        have hab := hcs b List.mem_cons_self
        have low : ∀ y, y < 2 * b → ¬ Sm (b :: r) y := fun y hy ⟨u, hu, v, hv, e⟩ => by
          have := hmin u hu
          have := hmin v hv
          omega
        have e := ns_ext (bs := a :: b :: r) (E := [a + a, a + b, a + x]) hin hns (by simp; omega) fun y hy => by
          have hy : y = a + a ∨ y = a + b ∨ y = a + x := by simpa using hy
          rcases hy with rfl | rfl | rfl
          · exact ⟨⟨a, by simp, a, by simp, rfl⟩, low _ (by omega)⟩
          · exact ⟨⟨a, by simp, b, by simp, rfl⟩, low _ (by omega)⟩
          · exact ⟨⟨a, by simp, x, hin x hx, rfl⟩, hnx⟩
        refine NS.le ?_ e
        simp only [List.length_cons, List.length_nil]
        omega
      · right
        have hsum : ∀ x ∈ b :: r, x ≠ b → Sm (b :: r) (a + x) := fun x hx hxb => Classical.byContradiction fun hn => hbad ⟨x, hx, hxb, hn⟩
        have hab := hcs b List.mem_cons_self
        have hdv : ∀ n : Nat, ∀ x ∈ a :: b :: r, (x - a).toNat = n → (b - a) ∣ x - a := fun n => by
          induction n using Nat.strongRecOn with
          | _ n ihn =>
            intro x hx hn
            rcases List.mem_cons.1 hx with rfl | hx'
            · rw [Int.sub_self]; exact Int.dvd_zero _
            · by_cases hxb : x = b
              · rw [hxb]; exact Int.dvd_refl _
              · obtain ⟨u, hu, v, hv, e⟩ := hsum x hx' hxb
                have h1 := hcs u hu
                have h2 := hcs v hv
                have d1 := ihn (u - a).toNat (by omega) u (hin u hu) rfl
                have d2 := ihn (v - a).toNat (by omega) v (hin v hv) rfl
                have := Int.dvd_add d1 d2
                rw [show u - a + (v - a) = x - a from by omega] at this
                exact this
        have hd := hG (b - a) (by omega) fun x hx => hdv _ x hx rfl
        refine ⟨by rw [show a + 1 = b from by omega]; exact List.mem_cons_of_mem _ List.mem_cons_self, fun x hx hx2 => ?_⟩
        rcases List.mem_cons.1 hx with rfl | hx
        · omega
        · obtain ⟨u, hu, v, hv, e⟩ := hsum x hx (by omega)
          exact ⟨u, hin u hu, v, hin v hv, hcs u hu, hcs v hv, e⟩
    · left
      by_cases hfar : 2 * b > a + z
      · exact full fun x hx ⟨u, hu, v, hv, e⟩ => by
          have := hmin u hu
          have := hmin v hv
          have := hmax x hx
          omega
      · -- the small ones
        have hr' : Srt (r.map fun x => x - b) := by
          unfold Srt
          rw [List.pairwise_map]
          exact (srt_tail (srt_tail h)).imp fun h => by omega
        have hrb : ∀ x ∈ r, b < x := srt_head (srt_tail h)
        have hsub := sub_rg 11 (lo := 1) hr' fun y hy => by
          obtain ⟨x, hx, rfl⟩ := List.mem_map.1 hy
          have := hrb x hx
          have := hmax x (List.mem_cons_of_mem _ hx)
          omega
        have hchk := List.all_eq_true.1 chk_all _ (mem_allSub hsub)
        have hs0 : Srt (0 :: r.map fun x => x - b) := List.pairwise_cons.2 ⟨fun y hy => by
          obtain ⟨x, hx, rfl⟩ := List.mem_map.1 hy
          have := hrb x hx
          omega, hr'⟩
        have hmem0 : ∀ x ∈ b :: r, x - b ∈ (0 :: r.map fun x => x - b) := fun x hx => by
          rcases List.mem_cons.1 hx with rfl | hx
          · rw [Int.sub_self]; exact List.mem_cons_self
          · exact List.mem_cons_of_mem _ (List.mem_map.2 ⟨x, hx, rfl⟩)
        have hlast : (0 :: r.map fun x => x - b).getLast (fun h => nomatch h) = z - b := by
          have h1 := srt_last hs0 (fun h => nomatch h) _ (hmem0 z hz)
          have h2 := List.getLast_mem (l := 0 :: r.map fun x => x - b) (fun h => nomatch h)
          rcases List.mem_cons.1 h2 with h2 | h2
          · have := hmin z hz; omega
          · obtain ⟨x, hx, e⟩ := List.mem_map.1 h2
            have := hmax x (List.mem_cons_of_mem _ hx)
            omega
        have hlen : (r.map fun x => x - b).length + 1 = k := by rw [List.length_map, ← hk]; rfl
        unfold chk at hchk
        dsimp only at hchk
        rw [hlast, hlen, Bool.or_eq_true, Bool.or_eq_true, decide_eq_true_eq, decide_eq_true_eq, List.all_eq_true] at hchk
        have h3 := (hchk.resolve_left (by omega)).resolve_left (by omega) (b - a) (by rw [mem_rg]; omega)
        rw [decide_eq_true_eq] at h3
        have h4 := ns_pc (bs := 0 :: (0 :: r.map fun x => x - b).map fun x => x + (b - a)) (fun x hx => by
          rcases List.mem_cons.1 hx with rfl | hx
          · exact Int.le_refl _
          · obtain ⟨y, hy, rfl⟩ := List.mem_map.1 hx
            have := hcs b List.mem_cons_self
            rcases List.mem_cons.1 hy with rfl | hy
            · omega
            · obtain ⟨w, hw, rfl⟩ := List.mem_map.1 hy
              have := hrb w hw
              omega) 50
        refine ns_map (g := 1) (c := a) (by decide) (fun x hx => ?_) (NS.le h3 h4)
        rw [Int.one_mul]
        rcases List.mem_cons.1 hx with rfl | hx
        · rw [Int.zero_add]; exact List.mem_cons_self
        · obtain ⟨y, hy, rfl⟩ := List.mem_map.1 hx
          rcases List.mem_cons.1 hy with rfl | hy
          · rw [show 0 + (b - a) + a = b from by omega]; exact List.mem_cons_of_mem _ List.mem_cons_self
          · obtain ⟨w, hw, rfl⟩ := List.mem_map.1 hy
            rw [show w - b + (b - a) + a = w from by omega]
            exact List.mem_cons_of_mem _ (List.mem_cons_of_mem _ hw)
  · left
    refine full fun x hx ⟨u, hu, v, hv, e⟩ => hc fun d hd1 hd => hG d hd1 fun y hy => ?_
    have hba : d ∣ b - a := by
      have := Int.dvd_sub (hd x hx) (Int.dvd_add (hd u hu) (hd v hv))
      rw [show x - b - (u - b + (v - b)) = b - a from by omega] at this
      exact this
    rcases List.mem_cons.1 hy with rfl | hy
    · rw [Int.sub_self]; exact Int.dvd_zero _
    · have := Int.dvd_add (hd y hy) hba
      rw [show y - b + (b - a) = y - a from by omega] at this
      exact this
/-! ### both ends -/
theorem srt_at {bs : List Int} (h : Srt bs) {i j : Nat} (hi : i < bs.length) (hj : j < bs.length) (hij : i < j) : bs[i] < bs[j] := List.pairwise_iff_getElem.1 h i j hi hj hij
theorem srt_ix {bs : List Int} (h : Srt bs) {u : Int} (hu : u ∈ bs) {j : Nat} (hj : j < bs.length) (hlt : u < bs[j]) : ∃ h0 : 0 < j, u ≤ bs[j - 1]'(by omega) := by
  obtain ⟨i, hi, rfl⟩ := List.mem_iff_getElem.1 hu
  have hij : i < j := by
    rcases Nat.lt_trichotomy i j with q | q | q
    · exact q
    · subst q; omega
    · have := srt_at h hj hi q; omega
  refine ⟨by omega, ?_⟩
  by_cases e : i = j - 1
  · subst e; exact Int.le_refl _
  · have := srt_at h hi (show j - 1 < bs.length by omega) (by omega)
    omega
theorem grow {a : Int} {t : List Int} (h : Srt (a :: t)) (hG : Gr a (a :: t)) {j : Nat} (hj : j < (a :: t).length) (h2 : 2 ≤ j) : (a :: t)[j] - a ≤ 2 * ((a :: t)[j - 1]'(by omega) - a) := by
  have h0 := srt_at h (i := 0) (j := 1) (by omega) (by omega) (by omega)
  have h1 := srt_at h (i := 1) (j := j) (by omega) hj (by omega)
  have e0 : (a :: t)[0] = a := rfl
  obtain ⟨u, hu, v, hv, hu1, hv1, e⟩ := hG.2 _ (List.getElem_mem hj) (by omega)
  obtain ⟨_, g1⟩ := srt_ix h hu hj (by omega)
  obtain ⟨_, g2⟩ := srt_ix h hv hj (by omega)
  omega
theorem grow1 {a : Int} {t : List Int} (h : Srt (a :: t)) (hG : Gr a (a :: t)) (h1 : 1 < (a :: t).length) : (a :: t)[1] ≤ a + 1 := by
  obtain ⟨i, hi, e⟩ := List.mem_iff_getElem.1 hG.1
  have e0 : (a :: t)[0] = a := rfl
  by_cases hi0 : i = 0
  · subst hi0; omega
  · by_cases hi1 : i = 1
    · subst hi1; omega
    · have := srt_at h h1 hi (by omega)
      omega
/-- what stands from behind -/
def rev (bs : List Int) : List Int := bs.reverse.map fun x => -x
theorem rev_len (bs : List Int) : (rev bs).length = bs.length := by unfold rev; rw [List.length_map, List.length_reverse]
theorem mem_rev {bs : List Int} {x : Int} : x ∈ rev bs ↔ -x ∈ bs := by
  unfold rev
  rw [List.mem_map]
  constructor
  · rintro ⟨y, hy, rfl⟩; rw [Int.neg_neg]; exact List.mem_reverse.1 hy
  · intro h; exact ⟨-x, List.mem_reverse.2 h, Int.neg_neg x⟩
theorem rev_srt {bs : List Int} (h : Srt bs) : Srt (rev bs) := by
  unfold rev Srt
  rw [List.pairwise_map, List.pairwise_reverse]
  exact h.imp fun h => by omega
theorem rev_at {bs : List Int} {j : Nat} (hj : j < (rev bs).length) : (rev bs)[j] = -(bs[bs.length - 1 - j]'(by rw [rev_len] at hj; omega)) := by
  have h2 : j < (bs.reverse.map fun x => -x).length := hj
  have e : (bs.reverse.map fun x => -x)[j] = -(bs[bs.length - 1 - j]'(by rw [rev_len] at hj; omega)) := by rw [List.getElem_map, List.getElem_reverse]
  exact e
theorem both_bad {a z : Int} {t t' : List Int} {k : Nat} (h : Srt (a :: t)) (hk : (a :: t).length = k) (hk3 : 3 ≤ k) (hk8 : k ≤ 8) (hz : (a :: t)[k - 1]'(by omega) = z) (hl : 2 * (k : Int) - 2 ≤ z - a) (hG : Gr a (a :: t)) (er : rev (a :: t) = -z :: t') (hR : Gr (-z) (-z :: t')) : False := by
  have hs' : Srt (-z :: t') := er ▸ rev_srt h
  have hk' : (-z :: t').length = k := by rw [← er, rev_len]; exact hk
  let f : Nat → Int := fun j => (a :: t).getD j 0
  have hf : ∀ j (hj : j < (a :: t).length), (a :: t)[j] = f j := fun j hj => by
    show _ = (a :: t).getD j 0
    rw [List.getD_eq_getElem?_getD, List.getElem?_eq_getElem hj]; rfl
  have hg : ∀ j (hj : j < (-z :: t').length), (-z :: t')[j] = -f (k - 1 - j) := fun j hj => by
    have e : (-z :: t')[j] = (rev (a :: t))[j]'(by rw [er]; exact hj) := by
      congr 1
      exact er.symm
    rw [e, rev_at, hf]
    congr 2
    rw [hk]
  have f0 : f 0 = a := rfl
  have fz : f (k - 1) = z := by rw [← hf (k - 1) (by omega)]; exact hz
  have g1 : f 1 ≤ a + 1 := by rw [← hf 1 (by omega)]; exact grow1 h hG (by omega)
  have g2 : ∀ j, 2 ≤ j → j < k → f j - a ≤ 2 * (f (j - 1) - a) := fun j j2 jk => by
    rw [← hf j (by omega), ← hf (j - 1) (by omega)]
    exact grow h hG (by omega) j2
  have r1 : -f (k - 1 - 1) ≤ -z + 1 := by rw [← hg 1 (by omega)]; exact grow1 hs' hR (by omega)
  have r2 : ∀ j, 2 ≤ j → j < k → -f (k - 1 - j) - -z ≤ 2 * (-f (k - 1 - (j - 1)) - -z) := fun j j2 jk => by
    rw [← hg j (by omega), ← hg (j - 1) (by omega)]
    exact grow hs' hR (by omega) j2
  clear_value f
  clear hf hg hz hR er hs' hG h hk'
  have hc : k = 3 ∨ k = 4 ∨ k = 5 ∨ k = 6 ∨ k = 7 ∨ k = 8 := by omega
  rcases hc with rfl | rfl | rfl | rfl | rfl | rfl
  · have a2 := g2 2 (by omega) (by omega)
    simp only [Nat.reduceSub] at *
    omega
  · have a2 := g2 2 (by omega) (by omega)
    have b2 := r2 2 (by omega) (by omega)
    simp only [Nat.reduceSub] at *
    omega
  · have a2 := g2 2 (by omega) (by omega)
    have b2 := r2 2 (by omega) (by omega)
    simp only [Nat.reduceSub] at *
    omega
  · have a2 := g2 2 (by omega) (by omega)
    have a3 := g2 3 (by omega) (by omega)
    have b2 := r2 2 (by omega) (by omega)
    simp only [Nat.reduceSub] at *
    omega
  · have a2 := g2 2 (by omega) (by omega)
    have a3 := g2 3 (by omega) (by omega)
    have b2 := r2 2 (by omega) (by omega)
    have b3 := r2 3 (by omega) (by omega)
    simp only [Nat.reduceSub] at *
    omega
  · have a2 := g2 2 (by omega) (by omega)
    have a3 := g2 3 (by omega) (by omega)
    have a4 := g2 4 (by omega) (by omega)
    have b2 := r2 2 (by omega) (by omega)
    have b3 := r2 3 (by omega) (by omega)
    simp only [Nat.reduceSub] at *
    omega
theorem part2 : ∀ (k : Nat), k ≤ 8 → ∀ (a : Int) (t : List Int) (z : Int), Srt (a :: t) → (a :: t).length = k → z ∈ a :: t → (∀ x ∈ a :: t, x ≤ z) → Gc a (a :: t) → 2 * (k : Int) - 2 ≤ z - a → NS (a :: t) (3 * k - 3)
  | 0, _, a, t, z, _, hk, _, _, _, _ => by rw [List.length_cons] at hk; omega
  | 1, _, a, t, z, _, hk, _, _, _, _ => ⟨[], .nil, (fun _ h => nomatch h), by simp⟩
  | k + 2, hk8, a, [], z, _, hk, _, _, _, _ => by simp at hk
  | k + 2, hk8, a, b :: r, z, h, hk, hz, hmax, hG, hl => by
    have hlen : (b :: r).length = k + 1 := by simp only [List.length_cons] at hk ⊢; omega
    have hab := srt_head h b List.mem_cons_self
    have hz' : z ∈ b :: r := by
      rcases List.mem_cons.1 hz with q | q
      · have := hmax b (by simp); omega
      · exact q
    by_cases hr : r = []
    · subst hr
      have : z = b := by simpa using hz'
      have hd := hG (b - a) (by omega) fun x hx => by
        have hx : x = a ∨ x = b := by simpa using hx
        rcases hx with rfl | rfl
        · rw [Int.sub_self]; exact Int.dvd_zero _
        · exact Int.dvd_refl _
      omega
    have hk1 : 1 ≤ k := by
      have := List.length_pos_iff.2 hr
      simp only [List.length_cons] at hlen
      omega
    have ih := part2 (k + 1) (by omega)
    have s1 := step h hG hz' (fun x hx => hmax x (List.mem_cons_of_mem _ hx)) hlen (by omega) (by omega) fun g1 g2 => ih b r z (srt_tail h) hlen hz' (fun x hx => hmax x (List.mem_cons_of_mem _ hx)) g1 (by omega)
    rcases s1 with s1 | s1
    · exact NS.le (by omega) s1
    -- from behind
    have hrl := rev_len (a :: b :: r)
    have hrs := rev_srt h
    cases er : rev (a :: b :: r) with
    | nil => rw [er] at hrl; simp at hrl
    | cons a' t' =>
      cases t' with
      | nil => rw [er] at hrl; simp only [List.length_cons, List.length_nil] at hrl hlen; omega
      | cons b' r' =>
        rw [er] at hrs hrl
        have hmr : ∀ x, x ∈ a' :: b' :: r' ↔ -x ∈ a :: b :: r := fun x => by rw [← er]; exact mem_rev
        have ha' : a' = -z := by
          have h1 := hmax _ ((hmr a').1 List.mem_cons_self)
          have h2 := (hmr (-z)).2 (by rw [Int.neg_neg]; exact hz)
          rcases List.mem_cons.1 h2 with q | q
          · exact q.symm
          · have := srt_head hrs _ q; omega
        subst ha'
        have hminA : ∀ x ∈ a :: b :: r, a ≤ x := fun x hx => by
          rcases List.mem_cons.1 hx with rfl | q
          · exact Int.le_refl _
          · have := srt_head h x q; omega
        have hna : -a ∈ -z :: b' :: r' := (hmr (-a)).2 (by rw [Int.neg_neg]; exact List.mem_cons_self)
        have hnmax : ∀ x ∈ -z :: b' :: r', x ≤ -a := fun x hx => by
          have := hminA _ ((hmr x).1 hx); omega
        have hlen' : (b' :: r').length = k + 1 := by simp only [List.length_cons] at hrl hlen ⊢; omega
        have hna' : -a ∈ b' :: r' := by
          rcases List.mem_cons.1 hna with q | q
          · have := srt_head hrs b' List.mem_cons_self
            have := hnmax b' (by simp)
            omega
          · exact q
        have hGr : Gc (-z) (-z :: b' :: r') := fun d hd1 hd => hG d hd1 fun x hx => by
          have h1 := hd (-x) ((hmr (-x)).2 (by rw [Int.neg_neg]; exact hx))
          have h2 := hd (-a) hna
          have := Int.dvd_sub h2 h1
          rw [show -a - -z - (-x - -z) = x - a from by omega] at this
          exact this
        have s2 := step hrs hGr hna' (fun x hx => hnmax x (List.mem_cons_of_mem _ hx)) hlen' (by omega) (by omega) fun g1 g2 => ih b' r' (-a) (srt_tail hrs) hlen' hna' (fun x hx => hnmax x (List.mem_cons_of_mem _ hx)) g1 (by omega)
        rcases s2 with s2 | s2
        · refine ns_map (g := -1) (c := 0) (by decide) (fun x hx => ?_) (NS.le (by omega) s2)
          rw [show -1 * x + 0 = -x from by omega]
          exact (hmr x).1 hx
        · exfalso
          have hzat : (a :: b :: r)[k + 2 - 1]'(by rw [hk]; omega) = z := by
            have e := rev_at (bs := a :: b :: r) (j := 0) (by rw [er]; simp)
            have e2 : (rev (a :: b :: r))[0]'(by rw [er]; simp) = -z := by
              have : ∀ (l : List Int) (hl : 0 < l.length), l = -z :: b' :: r' → l[0] = -z := fun l hl e => by subst e; rfl
              exact this _ _ er
            rw [e2] at e
            have e3 : (a :: b :: r)[(a :: b :: r).length - 1 - 0]'(by simp) = (a :: b :: r)[k + 2 - 1]'(by rw [hk]; omega) := by
              congr 1
            rw [e3] at e
            omega
          exact both_bad h hk (by omega) hk8 hzat (by omega) s1 er s2
/-- Freiman -/
theorem freiman {a z : Int} {t : List Int} {k : Nat} (h : Srt (a :: t)) (hk : (a :: t).length = k) (hk2 : 2 ≤ k) (hk8 : k ≤ 8) (hz : z ∈ a :: t) (hmax : ∀ x ∈ a :: t, x ≤ z) (hG : Gc a (a :: t)) : NS (a :: t) (k + min (z - a).toNat (2 * k - 3)) := by
  have hzt : z ∈ t := by
    rcases List.mem_cons.1 hz with q | q
    · cases t with
      | nil => simp at hk; omega
      | cons b r =>
        have := hmax b (by simp)
        have := srt_head h b List.mem_cons_self
        omega
    · exact q
  have haz := srt_head h z hzt
  rcases Int.lt_or_le (2 * (k : Int) - 3) (z - a) with q | q
  · have := part2 k hk8 a t z h hk hz hmax hG (by omega)
    rw [Nat.min_eq_right (by omega)]
    exact NS.le (by omega) this
  · rw [Nat.min_eq_left (by omega)]
    exact part1 h hzt (fun x hx => hmax x (List.mem_cons_of_mem _ hx)) hk q
end FR

set_option Elab.async false
set_option linter.all false
set_option maxRecDepth 10000
set_option maxHeartbeats 400000
namespace Law
open PySem PySem.Spec L2 TM
abbrev ii (n : Int) : Option Val := some ⟨.int n, 2⟩
theorem rd_t (t : T) : t.rd.t = t := by unfold T.rd; split <;> rfl

section
variable {rp : T → Str} {k : Nat} {W : Nat → T → Nat → Prop}
section
variable {call : Nat → List T → R Val} {τ : TM.Env} {b : Nat}
theorem i_seq {Q : List T → Nat → Prop} {e : TM.E} (h : SAT (fun v b1 => ∃ xs, (v.t = .lst xs ∨ v.t = .tup xs) ∧ Q xs b1) W (evE rp call e τ) b) : SAT Q W (evI rp call (.seq e) τ) b := by
  simp only [evI]
  refine s_seq (h.imp fun v b1 ⟨xs, e1, q⟩ => ?_)
  rcases e1 with e1 | e1 <;> rw [e1] <;> exact ⟨q⟩
end
theorem lcM_core {α : Type} {Q : Val → Nat → Prop} {call : Nat → List T → R Val} {τ : TM.Env} {elt : TM.E} {tg : Tg} {own : List Nat} {xs : List α} {e : α → T} {b : Nat} (g : α → T) (lv : Nat) (hl : xs.length ≤ 1000000)
    (hs : ∀ x ∈ xs, ∃ τ', setTg tg (e x).rd (wipes own τ) = .ok τ' ∧ SAT (fun v b' => v = ⟨g x, lv⟩ ∧ b' = b) (fun _ _ _ => False) (evE rp call elt τ') b)
    (hQ : ∀ l, Q ⟨.lst (xs.map g), l⟩ b) : SAT Q W (lcRun rp call elt tg .nil own τ (xs.map e)) b := by
  refine ⟨?_⟩
  unfold lcRun
  refine sat_seq (sat_noexc' ?_)
  refine sat_lcTI (fun i acc b' => b' = b ∧ acc = (xs.take i).map fun x => (⟨g x, lv⟩ : Val)) (i := 0) (acc := []) (fun j y acc b' hy ⟨hb, ea⟩ => ?_) (by rw [List.length_map]; show _ ≤ 16777216; omega) ⟨rfl, by rw [List.take_zero]; rfl⟩ fun r b' ⟨hb, ea⟩ hl2 => ?_
  · subst hb
    rw [List.getElem?_map] at hy
    obtain ⟨x, hx, rfl⟩ : ∃ x, xs[j]? = some x ∧ e x = y := by
      cases hq : xs[j]? with
      | none => rw [hq] at hy; cases hy
      | some n => rw [hq] at hy; cases hy; exact ⟨n, rfl, rfl⟩
    rw [Nat.zero_add] at ea ⊢
    obtain ⟨τ', h1, h2⟩ := hs x (List.mem_of_getElem? hx)
    refine sat_let h1 ?_
    refine sat_let (show evCs rp call .nil τ' = .ok true from by simp only [evCs]) ?_
    refine sat_seq (h2.h.imp (fun v b2 ⟨e1, e2⟩ => ?_) fun _ _ _ z => z)
    subst e1 e2
    refine ⟨rfl, ?_⟩
    rw [ea, List.take_add_one, hx, List.map_append]
    rfl
  · subst hb
    rw [List.nil_append, Nat.zero_add, List.length_map, List.take_length] at ea
    subst ea
    have e2 : ts (xs.map fun x => (⟨g x, lv⟩ : Val)) = xs.map g := by
      unfold ts
      rw [List.map_map]; rfl
    show Sat Q W (mkList _) b'
    unfold mkList
    rw [if_pos (Nat.ble_eq_true_of_le (by rw [List.length_map]; show _ ≤ 16777216; omega)), e2]
    exact hQ _
theorem lcM2 {α : Type} {Q : Val → Nat → Prop} {call : Nat → List T → R Val} {τ : TM.Env} {elt : TM.E} {tg : Tg} {own : List Nat} {xs : List α} {e : α → T} {b : Nat} (g : α → T) (hl : xs.length ≤ 1000000)
    (hs : ∀ x ∈ xs, ∃ τ', setTg tg (e x).rd (wipes own τ) = .ok τ' ∧ SAT (fun v b' => v = ⟨g x, 2⟩ ∧ b' = b) (fun _ _ _ => False) (evE rp call elt τ') b)
    (hQ : Q ⟨.lst (xs.map g), 2⟩ b) : SAT Q W (lcRun rp call elt tg .nil own τ (xs.map e)) b := by
  refine ⟨?_⟩
  unfold lcRun
  refine sat_seq (sat_noexc' ?_)
  refine sat_lcTI (fun i acc b' => b' = b ∧ acc = (xs.take i).map fun x => (⟨g x, 2⟩ : Val)) (i := 0) (acc := []) (fun j y acc b' hy ⟨hb, ea⟩ => ?_) (by rw [List.length_map]; show _ ≤ 16777216; omega) ⟨rfl, by rw [List.take_zero]; rfl⟩ fun r b' ⟨hb, ea⟩ hl2 => ?_
  · subst hb
    rw [List.getElem?_map] at hy
    obtain ⟨x, hx, rfl⟩ : ∃ x, xs[j]? = some x ∧ e x = y := by
      cases hq : xs[j]? with
      | none => rw [hq] at hy; cases hy
      | some n => rw [hq] at hy; cases hy; exact ⟨n, rfl, rfl⟩
    rw [Nat.zero_add] at ea ⊢
    obtain ⟨τ', h1, h2⟩ := hs x (List.mem_of_getElem? hx)
    refine sat_let h1 ?_
    refine sat_let (show evCs rp call .nil τ' = .ok true from by simp only [evCs]) ?_
    refine sat_seq (h2.h.imp (fun v b2 ⟨e1, e2⟩ => ?_) fun _ _ _ z => z)
    subst e1 e2
    refine ⟨rfl, ?_⟩
    rw [ea, List.take_add_one, hx, List.map_append]
    rfl
  · subst hb
    rw [List.nil_append, Nat.zero_add, List.length_map, List.take_length] at ea
    subst ea
    have e2 : ts (xs.map fun x => (⟨g x, 2⟩ : Val)) = xs.map g := by
      unfold ts
      rw [List.map_map]; rfl
    show Sat Q W (mkList _) b'
    rw [mkList_2 (fun v hv => by obtain ⟨x, _, rfl⟩ := List.mem_map.1 hv; rfl) (by rw [List.length_map]; exact hl), e2]
    exact hQ
theorem r_div {Q : Val → Nat → Prop} {m n b : Nat} (hn : n < 1000000) (q : Q ⟨.int (Nat.gcd m n : Nat), 2⟩ b) : SAT Q W (rk rp (k + 1) i__law_divisor [.int (m : Int), .int (n : Int)]) b := by
  refine s_run (np := 2) (ns := 2) (bd := b_f__law_divisor) rfl rfl ?_
  unfold b_f__law_divisor
  refine zss_whl (m := n) (fun j τ b' => b' = b ∧ ∃ x : Nat, τ = [some ⟨.int x, 2⟩, some ⟨.int (j : Int), 2⟩] ∧ Nat.gcd x j = Nat.gcd m n) (by omega) ⟨rfl, m, rfl, rfl⟩ fun j τ b' ⟨hb', x, e, hg⟩ => ?_
  subst e hb'
  refine e_cmp (e_ok (v := ⟨.int (j : Int), 2⟩) rfl (e_ok (v := ⟨.int 0, 2⟩) rfl (s_ok (a := decide ((0 : Int) < j)) rfl ⟨_, rfl, ?_⟩)))
  by_cases hj : 0 < j
  · rw [decide_eq_true (show (0 : Int) < j by omega), if_pos rfl]
    unfold b_f__law_divisor_l1
    refine zss_par (zes_cons (e_ok (v := ⟨.int (j : Int), 2⟩) rfl (zes_cons (e_bin (e_ok (v := ⟨.int (x : Int), 2⟩) rfl (e_ok (v := ⟨.int (j : Int), 2⟩) rfl (s_ok (mod_ok (by omega)) (zes_nil ⟨[some ⟨.int (j : Int), 2⟩, some ⟨.int ((x : Int) % (j : Int)), 2⟩], rfl, ?_⟩))))))))
    refine zss_nil ⟨x % j, Nat.mod_lt _ hj, rfl, j, ?_, ?_⟩
    · rw [Int.natCast_emod]
    · rw [Nat.gcd_comm, ← Nat.gcd_rec, Nat.gcd_comm]
      exact hg
  · have : j = 0 := by omega
    subst this
    rw [decide_eq_false (by omega), if_neg (by decide)]
    rw [Nat.gcd_zero_right] at hg
    refine zss_retv (v := ⟨.int (x : Int), 2⟩) rfl ?_
    rw [hg]
    exact q

theorem abs_ok (n : Nat) : biT rp .abs [.int (n : Int)] = .ok ⟨.int (n : Int), 2⟩ := by
  show mk2 (.int (if (n : Int) < 0 then -(n : Int) else n)) = _
  rw [if_neg (by omega)]; rfl
theorem r_divp {Q : Val → Nat → Prop} {m n b : Nat} (hn : n < 1000000) (q : Q ⟨.int (Nat.gcd m n : Nat), 2⟩ b) : SAT Q W (rk rp (k + 1) i_divisor_of [.int (m : Int), .int (n : Int)]) b := by
  refine s_run (np := 2) (ns := 2) (bd := b_f_divisor_of) rfl rfl ?_
  unfold b_f_divisor_of
  show SAT _ W (evSs rp _ (.cons _ _) [ii m, ii n]) b
  refine zss_par (zes_cons (e_bi (zes_cons (e_var (v := ⟨.int m, 2⟩) (hide_in (i := 0) rfl rfl) (zes_nil (s_ok (abs_ok m) (zes_cons (e_bi (zes_cons (e_var (v := ⟨.int n, 2⟩) (hide_in (i := 1) rfl rfl) (zes_nil (s_ok (abs_ok n) (zes_nil ⟨[ii m, ii n], rfl, ?_⟩)))))))))))))
  refine zss_whl (m := n) (fun j τ b' => b' = b ∧ ∃ x : Nat, τ = [some ⟨.int x, 2⟩, some ⟨.int (j : Int), 2⟩] ∧ Nat.gcd x j = Nat.gcd m n) (by omega) ⟨rfl, m, rfl, rfl⟩ fun j τ b' ⟨hb', x, e, hg⟩ => ?_
  subst e hb'
  refine e_cmp (e_ok (v := ⟨.int (j : Int), 2⟩) rfl (e_ok (v := ⟨.int 0, 2⟩) rfl (s_ok (a := decide ((0 : Int) < j)) rfl ⟨_, rfl, ?_⟩)))
  by_cases hj : 0 < j
  · rw [decide_eq_true (show (0 : Int) < j by omega), if_pos rfl]
    unfold b_f_divisor_of_l1
    refine zss_par (zes_cons (e_ok (v := ⟨.int (j : Int), 2⟩) rfl (zes_cons (e_bin (e_ok (v := ⟨.int (x : Int), 2⟩) rfl (e_ok (v := ⟨.int (j : Int), 2⟩) rfl (s_ok (mod_ok (by omega)) (zes_nil ⟨[some ⟨.int (j : Int), 2⟩, some ⟨.int ((x : Int) % (j : Int)), 2⟩], rfl, ?_⟩))))))))
    refine zss_nil ⟨x % j, Nat.mod_lt _ hj, rfl, j, ?_, ?_⟩
    · rw [Int.natCast_emod]
    · rw [Nat.gcd_comm, ← Nat.gcd_rec, Nat.gcd_comm]
      exact hg
  · have : j = 0 := by omega
    subst this
    rw [decide_eq_false (by omega), if_neg (by decide)]
    rw [Nat.gcd_zero_right] at hg
    refine zss_retv (v := ⟨.int (x : Int), 2⟩) rfl ?_
    rw [hg]
    exact q
/-! ### a right lot -/
structure Wh (ns : List Int) : Prop where
  srt : ns.Pairwise (· < ·)
  two : 2 ≤ ns.length
  le8 : ns.length ≤ 8
  sm : ∀ n ∈ ns, n.natAbs ≤ 10000
theorem row1 {l : List Int} {t : T} (hr : isRow l t) : isRow l t.rd.t := by rw [rd_t]; exact hr
theorem row2 {l : List Int} {t : T} (hr : isRow l t) : isRow l t.rd.t.rd.t := by rw [rd_t, rd_t]; exact hr
theorem r_rise {Q : Val → Nat → Prop} {ns : List Int} {t : T} {b : Nat} (hr : isRow ns t) (hs : ns.Pairwise (· < ·)) (hn : ns.length ≤ 1000) (q : Q ⟨.bl true, 2⟩ b) : SAT Q W (rk rp (k + 1) i_is_rising [t]) b := by
  refine s_run (np := 1) (ns := 3) (bd := b_f_is_rising) rfl rfl ?_
  unfold b_f_is_rising
  generalize rk rp k = call
  show SAT _ W (evSs rp call (.cons _ _) [some t.rd, none, none]) b
  have hz : evI rp call (.zip (.var 0) (.slc (.var 0) (.yes (.cst (.int 1))) .no)) [some t.rd, none, none] = .ok (zipT (ns.map .int) ((ns.drop 1).map .int)) := by
    have hc : cut (ns.map T.int) (some 1) none = (ns.drop 1).map .int := by
      unfold cut
      show ((ns.map T.int).drop (min (1 : Int).toNat (ns.map T.int).length)).take ((ns.map T.int).length - min (1 : Int).toNat (ns.map T.int).length) = _
      rw [List.map_drop]
      cases ns with
      | nil => rfl
      | cons n r =>
        have e : min (1 : Int).toNat ((n :: r).map T.int).length = 1 := by rw [List.map_cons, List.length_cons]; show min 1 _ = 1; omega
        rw [e]
        exact List.take_of_length_le (by rw [List.length_drop]; exact Nat.le_refl _)
    rcases hr with rfl | rfl
    · show (R.ok (zipT (ns.map T.int) (cut (ns.map T.int) (some 1) none))) = _
      rw [hc]
    · have e1 : evE rp call (.var 0) [some (T.tup (ns.map .int)).rd, none, none] = .ok ⟨.tup (ns.map .int), 2⟩ := congrArg R.ok (tup_rd ns)
      have e2 : evE rp call (.slc (.var 0) (.yes (.cst (.int 1))) .no) [some (T.tup (ns.map .int)).rd, none, none] = .ok ⟨.tup ((ns.drop 1).map .int), 2⟩ := by
        show R.ok (T.tup (cut (ns.map T.int) (some 1) none)).rd = _
        rw [hc, tup_rd]
      generalize TM.E.slc (.var 0) (.yes (.cst (.int 1))) .no = es at e2 ⊢
      simp only [evI]
      rw [e1, e2]
      rfl
  obtain ⟨zs, z1, z2⟩ := trues_ok (rp := rp) (xs := zipT (ns.map .int) ((ns.drop 1).map .int)) (g := fun _ => some ⟨.bl true, 2⟩) (fun _ _ => rfl) (Nat.le_trans (zipT_le _ _) (by rw [List.length_map]; omega))
  have l2 := evE_lc (rp := rp) (call := call) (τ := [some t.rd, none, none]) (elt := .cmp .lt (.var 1) (.var 2)) (tg := .tp [1, 2]) (cs := .nil) (own := [1, 2]) (g := fun _ => some ⟨.bl true, 2⟩) hz (Nat.le_trans (zipT_le _ _) (by rw [List.length_map]; show _ ≤ 16777216; omega)) (fun x hx => by
    obtain ⟨a, c, rfl, hac⟩ := rising_zip hs x hx
    refine ⟨_, rfl, .inr ⟨_, rfl, rfl, ?_⟩⟩
    show R.ok (⟨.bl (decide (a < c)), 2⟩ : Val) = _
    rw [decide_eq_true hac])
  rw [z1] at l2
  exact zss_ret (e_bi (zes_cons (e_ok l2 (zes_nil (s_ok z2 q)))))
theorem len_row {ns : List Int} {t : T} (hr : isRow ns t) : biT rp .len [t] = .ok ⟨.int ns.length, 2⟩ := by
  rcases hr with rfl | rfl
  · show mk2 (.int ((ns.map T.int).length : Int)) = _; rw [List.length_map]; rfl
  · show mk2 (.int ((ns.map T.int).length : Int)) = _; rw [List.length_map]; rfl
theorem r_cw {Q : Val → Nat → Prop} {ns : List Int} {t : T} {b : Nat} (hr : isRow ns t) (H : Wh ns) (q : Q ⟨.non, 2⟩ b) : SAT Q W (rk rp (k + 3) i_check_whole [t]) b := by
  have h8 := H.le8
  have h2 := H.two
  refine s_run (np := 1) (ns := 2) (bd := b_f_check_whole) rfl rfl ?_
  unfold b_f_check_whole
  show SAT _ W (evSs rp _ (.cons _ _) [some t.rd, none]) b
  have hlist : ∀ {t}, isRow ns t → rk rp (k + 2) i_is_list [t] = .ok ⟨.bl true, 2⟩ := fun hr => by rcases hr with rfl | rfl <;> rfl
  refine zss_iff0 (e_or (e_not (e_call (zes_cons (e_var (v := t.rd) rfl (zes_nil (s_ok (hlist (row2 hr)) ⟨true, rfl, false, rfl, ?_⟩)))))))
  refine e_or (e_cmp (e_bi (zes_cons (e_var (v := t.rd) rfl (zes_nil (s_ok (len_row (row2 hr)) (e_ok (v := ⟨.int 0, 2⟩) rfl (s_ok (a := (ns.length : Int) == 0) rfl ⟨_, rfl, ?_⟩))))))))
  rw [show ((ns.length : Int) == 0) = false from by rw [beq_eq_false_iff_ne]; omega, if_neg (by decide)]
  obtain ⟨ys, y1, y2⟩ := trues_ok (rp := rp) (xs := ns.map .int) (g := fun _ => some ⟨.bl true, 2⟩) (fun _ _ => rfl) (by rw [List.length_map]; omega)
  have l1 := evE_lc (rp := rp) (call := rk rp (k + 2)) (τ := [some t.rd, none]) (elt := .call 2 (.cons (.var 1) .nil)) (tg := .nm 1) (it := .seq (.var 0)) (cs := .nil) (own := [1]) (xs := ns.map .int) (g := fun _ => some ⟨.bl true, 2⟩) (evI_rowr hr rfl) (by rw [List.length_map]; show _ ≤ 16777216; omega) (fun x hx => by
    obtain ⟨n, hn, rfl⟩ := List.mem_map.1 hx
    exact ⟨_, rfl, .inr ⟨_, rfl, rfl, rfl⟩⟩)
  rw [y1] at l1
  refine e_or (e_not (e_bi (zes_cons (e_ok l1 (zes_nil (s_ok y2 ⟨true, rfl, false, rfl, ?_⟩))))))
  exact e_not (e_call (zes_cons (e_var (v := t.rd) rfl (zes_nil (r_rise (k := k + 1) (row2 hr) H.srt (by omega) ⟨true, rfl, rfl, zss_nil q⟩)))))
theorem r_c2 {Q : Val → Nat → Prop} {ns : List Int} {t : T} {b : Nat} (hr : isRow ns t) (H : Wh ns) (q : Q ⟨.non, 2⟩ b) : SAT Q W (rk rp (k + 4) i_check_two [.tup [t]]) b := by
  have h2 := H.two
  refine s_run (np := 1) (ns := 3) (bd := b_f_check_two) rfl rfl ?_
  unfold b_f_check_two
  show SAT _ W (evSs rp _ (.cons _ _) [some (T.tup [t]).rd, none, none]) b
  have hv : ∀ {τ : TM.Env} {call : Nat → List T → R Val}, τ[0]? = some (some (T.tup [t]).rd) → evE rp call (.var 0) τ = .ok (T.tup [t]).rd := fun e => by
    simp only [evE]
    rw [e]
    show R.ok ((T.tup [t]).rd.t.rd) = _
    rw [rd_t]
  have hseq : ∀ {τ : TM.Env} {call : Nat → List T → R Val}, τ[0]? = some (some (T.tup [t]).rd) → evI rp call (.seq (.var 0)) τ = .ok [t] := fun e => by
    simp only [evI]
    rw [hv e]
    show (match (T.tup [t]).rd.t with | .lst xs => R.ok xs | .tup xs => R.ok xs | _ => R.stuck) = _
    rw [rd_t]
  have hen : ∀ {τ : TM.Env} {call : Nat → List T → R Val}, τ[0]? = some (some (T.tup [t]).rd) → evI rp call (.enum (.var 0)) τ = .ok [.tup [.int 0, t]] := fun e => by
    simp only [evI]
    rw [hv e]
    show (seqOf (T.tup [t]).rd.t >>= fun xs => R.ok (enumT 0 xs)) = _
    rw [rd_t]
    rfl
  have hfz : ∀ x1 x2, frz [0] [some (T.tup [t]).rd, x1, x2] = [some (T.tup [t]).rd, x1, x2] := fun x1 x2 => by
    show frz1 0 _ = _
    unfold frz1
    show List.set _ 0 (some (T.tup [t]).rd.t.rd) = _
    rw [rd_t]
    rfl
  have hhd : ∀ x1 x2, (hide [0] [some (T.tup [t]).rd, x1, x2])[0]? = some (some (T.tup [t]).rd) := fun x1 x2 => hide_in (i := 0) rfl rfl
  refine zss_for (hseq (hhd _ _)) ?_
  rw [hfz]
  refine s_for (fun j τ b' => b' = b ∧ ∃ x1, τ = [some (T.tup [t]).rd, x1, none]) (fun j x τ b' hx ⟨hb', x1, e⟩ => ?_) ⟨rfl, _, rfl⟩ fun τ b' ⟨hb', x1, e⟩ => ?_
  · have hx : x = t := by
      have := List.mem_of_getElem? hx
      simpa using this
    subst hx e hb'
    refine s_let (a := [some (T.tup [x]).rd, some x.rd, none]) rfl ?_
    unfold b_f_check_two_l2
    exact zss_exp (e_call (zes_cons (e_var (v := x.rd) rfl (zes_nil (r_cw (k := k) (row2 hr) H (zss_nil ⟨rfl, _, rfl⟩))))))
  · subst e hb'
    refine zss_for (hen (hhd _ _)) ?_
    rw [hfz]
    refine s_for (fun j τ b2 => b2 = b' ∧ ∃ x1 x2, τ = [some (T.tup [t]).rd, x1, x2]) (fun j x τ b2 hx ⟨hb', x1, x2, e⟩ => ?_) ⟨rfl, _, _, rfl⟩ fun τ b2 ⟨hb', x1, x2, e⟩ => ?_
    · have hx : x = .tup [.int 0, t] := by
        have := List.mem_of_getElem? hx
        simpa using this
      subst hx e hb'
      have hst : ∃ l0, setTg (.tp [2, 1]) (T.tup [.int 0, t]).rd [some (T.tup [t]).rd, x1, x2] = .ok [some (T.tup [t]).rd, some ⟨t, l0⟩, ii 0] := by
        show ∃ l0, (match (T.tup [.int 0, t]).rd.t with | .tup xs => setAll [2, 1] xs (if (T.tup [.int 0, t]).rd.lv = 2 then 2 else 0) [some (T.tup [t]).rd, x1, x2] | _ => .stuck) = _
        rw [rd_t]
        exact ⟨_, rfl⟩
      obtain ⟨l0, hst⟩ := hst
      refine s_let hst ?_
      unfold b_f_check_two_l1
      refine zss_iff0 (e_cmp (e_bi (zes_cons (e_var (v := ⟨t, l0⟩) rfl (zes_nil (s_ok (len_row (row1 hr)) (e_ok (v := ⟨.int 2, 2⟩) rfl (s_ok (a := decide ((ns.length : Int) < 2)) rfl ?_))))))))
      rw [decide_eq_false (by omega)]
      exact ⟨rfl, zss_nil ⟨rfl, _, _, rfl⟩⟩
    · subst e hb'
      exact zss_nil q
end
end Law

set_option Elab.async false
set_option linter.all false
set_option maxRecDepth 10000
set_option maxHeartbeats 400000
namespace Law
open PySem PySem.Spec L2 TM
def hd0 (bs : List Int) : Int := bs.getD 0 0
def ls0 (bs : List Int) : Int := bs.getD (bs.length - 1) 0
def gA (a : Int) (bs : List Int) (g : Nat) : Nat := bs.foldl (fun g x => Nat.gcd g (x - a).toNat) g
def gN (bs : List Int) : Nat := gA (hd0 bs) bs 0
theorem gA_dvd (a : Int) : ∀ (bs : List Int) (g : Nat), gA a bs g ∣ g ∧ (∀ x ∈ bs, gA a bs g ∣ (x - a).toNat) ∧ ∀ d : Nat, d ∣ g → (∀ x ∈ bs, d ∣ (x - a).toNat) → d ∣ gA a bs g
  | [], g => ⟨Nat.dvd_refl g, (fun _ h => nomatch h), fun d h _ => h⟩
  | x :: xs, g => by
    obtain ⟨h1, h2, h3⟩ := gA_dvd a xs (Nat.gcd g (x - a).toNat)
    refine ⟨Nat.dvd_trans h1 (Nat.gcd_dvd_left _ _), fun y hy => ?_, fun d hd hx => h3 d (Nat.dvd_gcd hd (hx x List.mem_cons_self)) fun y hy => hx y (List.mem_cons_of_mem _ hy)⟩
    rcases List.mem_cons.1 hy with rfl | hy
    · exact Nat.dvd_trans h1 (Nat.gcd_dvd_right _ _)
    · exact h2 y hy
theorem gA_take {a : Int} {bs : List Int} {j : Nat} {x : Int} (h : bs[j]? = some x) : gA a (bs.take (j + 1)) 0 = Nat.gcd (gA a (bs.take j) 0) (x - a).toNat := by
  unfold gA
  rw [List.take_add_one, h, List.foldl_append]
  rfl
theorem hd_le {bs : List Int} (hs : bs.Pairwise (· < ·)) : ∀ x ∈ bs, hd0 bs ≤ x := fun x hx => by
  cases bs with
  | nil => cases hx
  | cons a r =>
    rcases List.mem_cons.1 hx with rfl | hx
    · exact Int.le_refl _
    · have := (List.pairwise_cons.1 hs).1 x hx
      show a ≤ x
      omega
theorem hd_mem {bs : List Int} (H : Wh bs) : hd0 bs ∈ bs := by
  have h2 := H.two
  cases bs with
  | nil => simp at h2
  | cons a r => exact List.mem_cons_self
theorem ls_mem {bs : List Int} (H : Wh bs) : ls0 bs ∈ bs := by
  have h2 := H.two
  unfold ls0
  rw [List.getD_eq_getElem?_getD, List.getElem?_eq_getElem (by omega)]
  exact List.getElem_mem _
theorem le_ls {bs : List Int} (H : Wh bs) : ∀ x ∈ bs, x ≤ ls0 bs := fun x hx => by
  have h2 := H.two
  obtain ⟨i, hi, rfl⟩ := List.mem_iff_getElem.1 hx
  unfold ls0
  rw [List.getD_eq_getElem?_getD, List.getElem?_eq_getElem (by omega)]
  show bs[i] ≤ bs[bs.length - 1]
  by_cases e : i = bs.length - 1
  · subst e; exact Int.le_refl _
  · have := FR.srt_at H.srt hi (show bs.length - 1 < bs.length by omega) (by omega)
    omega
theorem hd_lt {bs : List Int} (H : Wh bs) : hd0 bs < ls0 bs := by
  have h2 := H.two
  have := FR.srt_at H.srt (i := 0) (j := bs.length - 1) (by omega) (by omega) (by omega)
  unfold hd0 ls0
  rw [List.getD_eq_getElem?_getD, List.getElem?_eq_getElem (by omega), List.getD_eq_getElem?_getD, List.getElem?_eq_getElem (by omega)]
  exact this
theorem gN_pos {bs : List Int} (H : Wh bs) : 1 ≤ gN bs := by
  have h1 := hd_lt H
  have h2 := (gA_dvd (hd0 bs) bs 0).2.1 _ (ls_mem H)
  rcases Nat.eq_zero_or_pos (gN bs) with q | q
  · unfold gN at q
    rw [q] at h2
    have := Nat.eq_zero_of_zero_dvd h2
    omega
  · exact q
theorem gN_le {bs : List Int} (H : Wh bs) : gN bs ≤ 20000 := by
  have h1 := hd_lt H
  have h2 := (gA_dvd (hd0 bs) bs 0).2.1 _ (ls_mem H)
  have h3 := Nat.le_of_dvd (by omega) h2
  have h4 := H.sm _ (ls_mem H)
  have h5 := H.sm _ (hd_mem H)
  unfold gN
  omega
def h3 (bs : List Int) : Int := (ls0 bs - hd0 bs) / gN bs + 1
abbrev hullT (bs : List Int) : T := .tup [.int (gN bs), .int (hd0 bs), .int (h3 bs)]
def flF (bs : List Int) : Int := bs.length + if 2 * (bs.length : Int) - 3 < h3 bs - 1 then 2 * (bs.length : Int) - 3 else h3 bs - 1
def bareF (bs : List Int) : List Int := bs.map fun x => (x - hd0 bs) / gN bs
section
variable {rp : T → Str} {k : Nat} {W : Nat → T → Nat → Prop}
theorem idx_row {ns : List Int} {t : T} (hr : isRow ns t) {i : Nat} (hi : i < ns.length) : idxR t (.int (i : Int)) = .ok ⟨.int (ns.getD i 0), 2⟩ := by
  rcases hr with rfl | rfl
  · show (getAt (ns.map T.int) (i : Int) >>= fun x => R.ok x.rd) = _
    rw [getAt_ints ns hi]; rfl
  · show (getAt (ns.map T.int) (i : Int) >>= fun x => R.ok x.rd) = _
    rw [getAt_ints ns hi]; rfl
theorem getAt_neg (ns : List Int) {j : Nat} (h1 : 1 ≤ j) (hj : j ≤ ns.length) : getAt (ns.map T.int) (-(j : Int)) = .ok (.int (ns.getD (ns.length - j) 0)) := by
  unfold getAt L2.atI L2.ixN
  rw [if_neg (by omega), if_pos (by rw [List.length_map]; omega), Option.bind_some, List.length_map, show (-(j : Int) + (ns.length : Int)).toNat = ns.length - j from by omega, List.getElem?_map, List.getElem?_eq_getElem (show ns.length - j < ns.length by omega)]
  show R.ok (T.int ns[ns.length - j]) = _
  rw [List.getD_eq_getElem?_getD, List.getElem?_eq_getElem (show ns.length - j < ns.length by omega)]
  rfl
theorem idx_rowN {ns : List Int} {t : T} (hr : isRow ns t) {j : Nat} (h1 : 1 ≤ j) (hj : j ≤ ns.length) : idxR t (.int (-(j : Int))) = .ok ⟨.int (ns.getD (ns.length - j) 0), 2⟩ := by
  rcases hr with rfl | rfl
  · show (getAt (ns.map T.int) (-(j : Int)) >>= fun x => R.ok x.rd) = _
    rw [getAt_neg ns h1 hj]; rfl
  · show (getAt (ns.map T.int) (-(j : Int)) >>= fun x => R.ok x.rd) = _
    rw [getAt_neg ns h1 hj]; rfl
theorem hd_ok {call : Nat → List T → R Val} {τ : TM.Env} {j : Nat} {v : Val} {ns : List Int} (h : τ[j]? = some (some v)) (hr : isRow ns v.t) (hl : 1 ≤ ns.length) : evE rp call (.idx (.var j) (.cst (.int 0))) τ = .ok ⟨.int (hd0 ns), 2⟩ := by
  simp only [evE]
  rw [h]
  show idxR v.t.rd.t (.int ((0 : Nat) : Int)) = _
  rw [rd_t, idx_row hr (by omega)]
  rfl
theorem ls_ok {call : Nat → List T → R Val} {τ : TM.Env} {j : Nat} {v : Val} {ns : List Int} (h : τ[j]? = some (some v)) (hr : isRow ns v.t) (hl : 1 ≤ ns.length) : evE rp call (.idx (.var j) (.neg (.cst (.int 1)))) τ = .ok ⟨.int (ls0 ns), 2⟩ := by
  simp only [evE]
  rw [h]
  show idxR v.t.rd.t (.int (-((1 : Nat) : Int))) = _
  rw [rd_t, idx_rowN hr (by omega) (by omega)]
  rfl
theorem fdiv_ok {i : Int} {j : Nat} (h1 : 1 ≤ j) (h2 : j ≤ 20000) : binT .fdiv (.int i) (.int (j : Int)) = .ok ⟨.int (i / j), 2⟩ := by
  show (if 0 < (j : Int) ∧ (j : Int) < 1073741824 then mk2 (.int (i / j)) else R.stuck) = _
  rw [if_pos (by omega)]; rfl
theorem hull_body {Q : Out → Nat → Prop} {call : Nat → List T → R Val} {ix : Nat} {ns : List Int} {t : T} {b : Nat} (hr : isRow ns t) (H : Wh ns)
    (hc : ∀ {Q : Val → Nat → Prop} {m n : Nat}, n < 1000000 → Q ⟨.int (Nat.gcd m n : Nat), 2⟩ b → SAT Q W (call ix [.int (m : Int), .int (n : Int)]) b) (q : Q (.rt ⟨hullT ns, 2⟩) b) :
    SAT Q W (evSs rp call (.cons (.asg (.nm 1) (.cst (.int 0)) []) (.cons (.for (.nm 2) (.seq (.var 0)) (.cons (.asg (.nm 1) (.call ix (.cons (.var 1) (.cons (.bin .sub (.var 2) (.idx (.var 0) (.cst (.int 0)))) .nil))) [1, 2, 0]) .nil) [0]) (.cons (.ret (.tup (.cons (.var 1) (.cons (.idx (.var 0) (.cst (.int 0))) (.cons (.bin .add (.bin .fdiv (.bin .sub (.idx (.var 0) (.neg (.cst (.int 1)))) (.idx (.var 0) (.cst (.int 0)))) (.var 1)) (.cst (.int 1))) .nil))))) .nil))) [some t.rd, none, none]) b := by
  have h2 := H.two
  have hfz : ∀ x1 x2, frz [0] [some t.rd, x1, x2] = [some t.rd, x1, x2] := fun x1 x2 => by
    show frz1 0 _ = _
    unfold frz1
    show List.set _ 0 (some t.rd.t.rd) = _
    rw [rd_t]
    rfl
  refine zss_asg (e_ok (v := ⟨.int 0, 2⟩) rfl ?_)
  show SAT _ W (evSs rp call (.cons _ _) [some t.rd, ii 0, none]) b
  refine zss_for (xs := ns.map .int) (evI_rowr hr (hide_in (i := 0) rfl rfl)) ?_
  rw [hfz]
  refine s_for (fun j τ b' => b' = b ∧ ∃ x2, τ = [some t.rd, ii (gA (hd0 ns) (ns.take j) 0 : Nat), x2]) (fun j x τ b' hx ⟨hb', x2, e⟩ => ?_) ⟨rfl, _, rfl⟩ fun τ b' ⟨hb', x2, e⟩ => ?_
  · obtain ⟨n, hn, rfl, hm⟩ := map_get hx
    subst e hb'
    have h0 := hd_le H.srt n hm
    have s1 := H.sm n hm
    have s2 := H.sm _ (hd_mem H)
    refine s_let (a := [some t.rd, ii (gA (hd0 ns) (ns.take j) 0 : Nat), ii n]) rfl ?_
    refine zss_asg (e_call (zes_cons (e_var (v := ⟨.int (gA (hd0 ns) (ns.take j) 0 : Nat), 2⟩) (hide_in (i := 1) rfl rfl) (zes_cons (e_bin (e_var (v := ⟨.int n, 2⟩) (hide_in (i := 2) rfl rfl) (e_ok (hd_ok (v := t.rd) (hide_in (i := 0) rfl rfl) (row1 hr) (by omega)) (s_ok (a := ⟨.int (n - hd0 ns), 2⟩) rfl (zes_nil ?_)))))))))
    rw [show n - hd0 ns = ((n - hd0 ns).toNat : Nat) from by omega]
    refine hc (by omega) ?_
    refine zss_nil ⟨rfl, ii n, ?_⟩
    rw [gA_take hn]
    rfl
  · subst e hb'
    rw [List.length_map, List.take_length]
    have g1 := gN_pos H
    have g2 := gN_le H
    refine zss_ret (e_tup (zes_cons (e_ok (v := ⟨.int (gN ns : Nat), 2⟩) rfl (zes_cons (e_ok (hd_ok (v := t.rd) rfl (row1 hr) (by omega)) (zes_cons (e_bin (e_bin (e_bin (e_ok (ls_ok (v := t.rd) rfl (row1 hr) (by omega)) (e_ok (hd_ok (v := t.rd) rfl (row1 hr) (by omega)) (s_ok (a := ⟨.int (ls0 ns - hd0 ns), 2⟩) rfl (e_ok (v := ⟨.int (gN ns : Nat), 2⟩) rfl (s_ok (fdiv_ok g1 g2) (e_ok (v := ⟨.int 1, 2⟩) rfl (s_ok (a := ⟨.int (h3 ns), 2⟩) rfl (zes_nil (s_ok (a := ⟨hullT ns, 2⟩) rfl q))))))))))))))))))
theorem r_hullof {Q : Val → Nat → Prop} {ns : List Int} {t : T} {b : Nat} (hr : isRow ns t) (H : Wh ns) (q : Q ⟨hullT ns, 2⟩ b) : SAT Q W (rk rp (k + 2) i_hull_of [t]) b := by
  refine s_run (np := 1) (ns := 3) (bd := b_f_hull_of) rfl rfl ?_
  unfold b_f_hull_of b_f_hull_of_l1
  exact hull_body hr H (fun hn q => r_divp (k := k) hn q) q
theorem r_lhull {Q : Val → Nat → Prop} {ns : List Int} {t : T} {b : Nat} (hr : isRow ns t) (H : Wh ns) (q : Q ⟨hullT ns, 2⟩ b) : SAT Q W (rk rp (k + 2) i__law_hull [t]) b := by
  refine s_run (np := 1) (ns := 3) (bd := b_f__law_hull) rfl rfl ?_
  unfold b_f__law_hull b_f__law_hull_l1
  exact hull_body hr H (fun hn q => r_div (k := k) hn q) q
theorem chk_two {Q : Out → Nat → Prop} {ss : Ss} {ns : List Int} {t : T} {b : Nat} (hr : isRow ns t) (H : Wh ns) (q : SAT Q W (evSs rp (rk rp (k + 4)) ss [some t.rd]) b) : SAT Q W (evSs rp (rk rp (k + 4)) (.cons (.exp (.call 6 (.cons (.tup (.cons (.var 0) .nil)) .nil))) ss) [some t.rd]) b := by
  refine zss_exp (e_call (zes_cons (e_tup (zes_cons (e_var (v := t.rd) rfl (zes_nil ?_))))))
  refine s_ok (a := ⟨.tup [t.rd.t.rd.t], if all2 [t.rd.t.rd] then 2 else 0⟩) rfl ?_
  refine zes_nil (r_c2 (k := k) (row2 hr) H q)
theorem r_hull {Q : Val → Nat → Prop} {ns : List Int} {t : T} {b : Nat} (hr : isRow ns t) (H : Wh ns) (q : Q ⟨hullT ns, 2⟩ b) : SAT Q W (rk rp (k + 5) i_hull [t]) b := by
  refine s_run (np := 1) (ns := 1) (bd := b_f_hull) rfl rfl ?_
  unfold b_f_hull
  refine chk_two hr H ?_
  exact zss_ret (e_call (zes_cons (e_var (v := t.rd) rfl (zes_nil (r_hullof (k := k + 2) (row2 hr) H q)))))
theorem r_floor {Q : Val → Nat → Prop} {ns : List Int} {t : T} {b : Nat} (hr : isRow ns t) (H : Wh ns) (q : Q ⟨.int (flF ns), 2⟩ b) : SAT Q W (rk rp (k + 5) i_sum_floor [t]) b := by
  refine s_run (np := 1) (ns := 1) (bd := b_f_sum_floor) rfl rfl ?_
  unfold b_f_sum_floor
  refine chk_two hr H ?_
  refine zss_ret (e_bin (e_bi (zes_cons (e_var (v := t.rd) rfl (zes_nil (s_ok (len_row (row2 hr)) (e_bi (zes_cons (e_bin (e_idx (e_call (zes_cons (e_var (v := t.rd) rfl (zes_nil (r_hullof (k := k + 2) (row2 hr) H (e_ok (v := ⟨.int 2, 2⟩) rfl (s_ok (a := ⟨.int (h3 ns), 2⟩) rfl (e_ok (v := ⟨.int 1, 2⟩) rfl (s_ok (a := ⟨.int (h3 ns - 1), 2⟩) rfl ?_)))))))))))))))))))
  refine zes_cons (e_bin (e_bin (e_ok (v := ⟨.int 2, 2⟩) rfl (e_bi (zes_cons (e_var (v := t.rd) rfl (zes_nil (s_ok (len_row (row2 hr)) (s_ok (mul_ok (by decide)) (e_ok (v := ⟨.int 3, 2⟩) rfl (s_ok (a := ⟨.int (2 * (ns.length : Int) - 3), 2⟩) rfl (zes_nil (s_ok (a := ⟨.int (if 2 * (ns.length : Int) - 3 < h3 ns - 1 then 2 * (ns.length : Int) - 3 else h3 ns - 1), 2⟩) rfl (s_ok (a := ⟨.int (flF ns), 2⟩) rfl q))))))))))))))
theorem bare_body {Q : Out → Nat → Prop} {call : Nat → List T → R Val} {ix : Nat} {ns : List Int} {t : T} {b : Nat} (hr : isRow ns t) (H : Wh ns)
    (hc : ∀ {Q : Val → Nat → Prop} {t : T}, isRow ns t → Q ⟨hullT ns, 2⟩ b → SAT Q W (call ix [t]) b) (q : Q (.rt ⟨li (bareF ns), 2⟩) b) :
    SAT Q W (evSs rp call (.cons (.asg (.nm 1) (.idx (.call ix (.cons (.var 0) .nil)) (.cst (.int 0))) [0]) (.cons (.ret (.lc (.bin .fdiv (.bin .sub (.var 2) (.idx (.var 0) (.cst (.int 0)))) (.var 1)) (.nm 2) (.seq (.var 0)) .nil [2])) .nil)) [some t.rd, none, none]) b := by
  have h2 := H.two
  have h8 := H.le8
  refine zss_asg (e_idx (e_call (zes_cons (e_var (v := t.rd) (hide_in (i := 0) rfl rfl) (zes_nil (hc (row2 hr) (e_ok (v := ⟨.int 0, 2⟩) rfl (s_ok (a := ⟨.int (gN ns : Nat), 2⟩) rfl ?_))))))))
  show SAT _ W (evSs rp call (.cons _ _) [some t.rd, ii (gN ns : Nat), none]) b
  refine zss_ret (e_lcE (s_ok (evI_rowr hr rfl) ?_))
  refine lcM2 (fun x => .int ((x - hd0 ns) / gN ns)) (by omega) (fun x hx => ⟨[some t.rd, ii (gN ns : Nat), ii x], rfl, ?_⟩) ?_
  · exact e_bin (e_bin (e_ok (v := ⟨.int x, 2⟩) rfl (e_ok (hd_ok (v := t.rd) rfl (row1 hr) (by omega)) (s_ok (a := ⟨.int (x - hd0 ns), 2⟩) rfl (e_ok (v := ⟨.int (gN ns : Nat), 2⟩) rfl (s_ok (fdiv_ok (gN_pos H) (gN_le H)) ⟨rfl, rfl⟩))))))
  · have : ns.map (fun x => T.int ((x - hd0 ns) / gN ns)) = (bareF ns).map .int := by unfold bareF; rw [List.map_map]; rfl
    rw [this]
    exact q
theorem r_bareof {Q : Val → Nat → Prop} {ns : List Int} {t : T} {b : Nat} (hr : isRow ns t) (H : Wh ns) (q : Q ⟨li (bareF ns), 2⟩ b) : SAT Q W (rk rp (k + 3) i_bare_of [t]) b := by
  refine s_run (np := 1) (ns := 3) (bd := b_f_bare_of) rfl rfl ?_
  unfold b_f_bare_of
  exact bare_body hr H (fun hr q => r_hullof (k := k) hr H q) q
theorem r_lbare {Q : Val → Nat → Prop} {ns : List Int} {t : T} {b : Nat} (hr : isRow ns t) (H : Wh ns) (q : Q ⟨li (bareF ns), 2⟩ b) : SAT Q W (rk rp (k + 3) i__law_bare [t]) b := by
  refine s_run (np := 1) (ns := 3) (bd := b_f__law_bare) rfl rfl ?_
  unfold b_f__law_bare
  exact bare_body hr H (fun hr q => r_lhull (k := k) hr H q) q
theorem r_bare {Q : Val → Nat → Prop} {ns : List Int} {t : T} {b : Nat} (hr : isRow ns t) (H : Wh ns) (q : Q ⟨li (bareF ns), 2⟩ b) : SAT Q W (rk rp (k + 5) i_bare [t]) b := by
  refine s_run (np := 1) (ns := 1) (bd := b_f_bare) rfl rfl ?_
  unfold b_f_bare
  refine chk_two hr H ?_
  exact zss_ret (e_call (zes_cons (e_var (v := t.rd) rfl (zes_nil (r_bareof (k := k + 1) (row2 hr) H q)))))
end
end Law

set_option Elab.async false
set_option linter.all false
set_option maxRecDepth 10000
set_option maxHeartbeats 400000
namespace Law
open PySem PySem.Spec L2 TM
def ks1 (ks : List Int) (x : Int) : List Int := if x ∈ ks then ks else ks ++ [x]
theorem ks1_nodup {ks : List Int} (h : ks.Nodup) (x : Int) : (ks1 ks x).Nodup := by
  unfold ks1
  split
  · exact h
  · rename_i hm
    rw [List.nodup_append]
    exact ⟨h, List.nodup_cons.2 ⟨fun k => (nomatch k), List.nodup_nil⟩, fun a ha b hb e2 => by rw [List.mem_singleton] at hb; rw [hb] at e2; exact hm (e2 ▸ ha)⟩
theorem mem_ks1 {ks : List Int} {x y : Int} : y ∈ ks1 ks x ↔ y ∈ ks ∨ y = x := by
  unfold ks1
  split
  · rename_i hm
    exact ⟨.inl, fun z => z.elim id fun e => e ▸ hm⟩
  · rw [List.mem_append, List.mem_singleton]
theorem ks1_len (ks : List Int) (x : Int) : (ks1 ks x).length ≤ ks.length + 1 := by
  unfold ks1
  split
  · omega
  · rw [List.length_append, List.length_singleton]; omega
section
variable {rp : T → Str} {k : Nat} {W : Nat → T → Nat → Prop}
theorem frz_row1 {t u : T} {x2 x3 x4 : Option Val} : frz [0] [some t.rd, some u.rd, x2, x3, x4] = [some t.rd, some u.rd, x2, x3, x4] := by
  show frz1 0 _ = _
  unfold frz1
  show List.set _ 0 (some t.rd.t.rd) = _
  rw [rd_t]
  rfl
theorem frz_row2 {t u : T} {x2 x3 x4 : Option Val} : frz [1] [some t.rd, some u.rd, x2, x3, x4] = [some t.rd, some u.rd, x2, x3, x4] := by
  show frz1 1 _ = _
  unfold frz1
  show List.set _ 1 (some u.rd.t.rd) = _
  rw [rd_t]
  rfl
abbrev fS (t u : T) (ks : List Int) (us : List T) (x3 x4 : Option Val) : TM.Env := [some t.rd, some u.rd, some ⟨.dct (ks.map .int) us, 2⟩, x3, x4]
theorem wsums_body {Q : Out → Nat → Prop} {call : Nat → List T → R Val} {c : T} {A B : List Int} {t u : T} {b : Nat} (hc : c.nomut = true) (hr : isRow A t) (hu : isRow B u) (la : A.length ≤ 100) (lb : B.length ≤ 100)
    (q : ∀ ls : List Int, ls.Pairwise (· < ·) → (∀ x, x ∈ ls ↔ ∃ a ∈ A, ∃ d ∈ B, x = a + d) → Q (.rt ⟨li ls, 2⟩) b) :
    SAT Q W (evSs rp call (.cons (.asg (.nm 2) (.dsp .nil .nil) []) (.cons (.for (.nm 3) (.seq (.var 0)) (.cons (.for (.nm 4) (.seq (.var 1)) (.cons (.stod 2 (.bin .add (.var 3) (.var 4)) (.cst c) [3, 4]) .nil) [1]) .nil) [0]) (.cons (.ret (.bi .sorted (.cons (.var 2) .nil))) .nil))) [some t.rd, some u.rd, none, none, none]) b := by
  refine zss_asg (e_ok (v := ⟨.dct [] [], 2⟩) rfl ?_)
  show SAT _ W (evSs rp call (.cons _ _) (fS t u [] [] none none)) b
  refine zss_for (xs := A.map .int) (evI_rowr hr (hide_in (i := 0) rfl rfl)) ?_
  rw [frz_row1]
  refine s_for (fun i τ b' => b' = b ∧ ∃ (ks : List Int) (us : List T) (x3 x4 : Option Val), τ = fS t u ks us x3 x4 ∧ ks.Nodup ∧ (∀ x, x ∈ ks ↔ ∃ a ∈ A.take i, ∃ d ∈ B, x = a + d) ∧ ks.length ≤ i * 100)
    (fun i x τ b' hx ⟨hb', ks, us, x3, x4, e, nd, hm, hlen⟩ => ?_) ⟨rfl, [], [], none, none, rfl, List.nodup_nil, fun x => ⟨fun k => (nomatch k), fun ⟨n, hn, _⟩ => by rw [List.take_zero] at hn; cases hn⟩, Nat.zero_le _⟩ fun τ b' ⟨hb', ks, us, x3, x4, e, nd, hm, hlen⟩ => ?_
  · obtain ⟨n, hn, rfl, _⟩ := map_get hx
    have hi : i < A.length := (List.getElem?_eq_some_iff.1 hn).1
    subst e hb'
    refine s_let (a := fS t u ks us (ii n) x4) rfl ?_
    refine zss_for (xs := B.map .int) (evI_rowr hu (hide_in (i := 1) rfl rfl)) ?_
    rw [frz_row2]
    refine s_for (fun j τ b2 => b2 = b' ∧ ∃ (ks2 : List Int) (us2 : List T) (x4 : Option Val), τ = fS t u ks2 us2 (ii n) x4 ∧ ks2.Nodup ∧ (∀ x, x ∈ ks2 ↔ x ∈ ks ∨ ∃ d ∈ B.take j, x = n + d) ∧ ks2.length ≤ ks.length + j)
      (fun j x τ b2 hx ⟨hb2, ks2, us2, x4, e, nd2, hm2, hlen2⟩ => ?_) ⟨rfl, ks, us, x4, rfl, nd, fun x => ⟨.inl, fun z => z.elim id fun ⟨d, hd, _⟩ => by rw [List.take_zero] at hd; cases hd⟩, Nat.le_refl _⟩ fun τ b2 ⟨hb2, ks2, us2, x4, e, nd2, hm2, hlen2⟩ => ?_
    · obtain ⟨m, hm3, rfl, _⟩ := map_get hx
      have hj : j < B.length := (List.getElem?_eq_some_iff.1 hm3).1
      subst e hb2
      refine s_let (a := fS t u ks2 us2 (ii n) (ii m)) rfl ?_
      refine zss_stod (ks0 := ks2.map .int) (us0 := us2) (l0 := 2) rfl (e_ok (v := ⟨c, 2⟩) rfl (e_bin (e_var (v := ⟨.int n, 2⟩) (hide_in (i := 3) rfl rfl) (e_var (v := ⟨.int m, 2⟩) (hide_in (i := 4) rfl rfl) (s_ok (a := ⟨.int (n + m), 2⟩) rfl ⟨ks2.map .int, us2, 1, rfl, rfl, by rw [List.length_map]; show _ < 16777216; omega, ?_⟩)))))
      obtain ⟨us', e⟩ := put_ints (n + m) c ks2 us2
      have hif : (if 1 = 1 ∧ (⟨c, 2⟩ : Val).t.nomut = true then 2 else 1) = 2 := if_pos ⟨rfl, hc⟩
      rw [hif]
      show SAT _ W (evSs _ _ .nil [some t.rd, some u.rd, some ⟨.dct (putT (.int (n + m)) c (ks2.map .int) us2).1 (putT (.int (n + m)) c (ks2.map .int) us2).2, 2⟩, ii n, ii m]) b2
      rw [e]
      refine zss_nil ⟨rfl, ks1 ks2 (n + m), us', _, rfl, ks1_nodup nd2 _, fun x => ?_, ?_⟩
      · rw [mem_ks1, hm2, List.take_add_one, hm3]
        constructor
        · rintro ((h | ⟨d, hd, e⟩) | e)
          · exact .inl h
          · exact .inr ⟨d, List.mem_append_left _ hd, e⟩
          · exact .inr ⟨m, List.mem_append_right _ (by simp), e⟩
        · rintro (h | ⟨d, hd, e9⟩)
          · exact .inl (.inl h)
          · rcases List.mem_append.1 hd with hd | hd
            · exact .inl (.inr ⟨d, hd, e9⟩)
            · have : d = m := by simpa using hd
              exact .inr (by rw [e9, this])
      · have := ks1_len ks2 (n + m)
        omega
    · subst e hb2
      rw [List.length_map] at hm2 hlen2
      rw [List.take_length] at hm2
      refine zss_nil ⟨rfl, ks2, us2, _, _, rfl, nd2, fun x => ?_, by omega⟩
      rw [hm2, hm, List.take_add_one, hn]
      constructor
      · rintro (⟨a, ha, d, hd, e⟩ | ⟨d, hd, e⟩)
        · exact ⟨a, List.mem_append_left _ ha, d, hd, e⟩
        · exact ⟨n, List.mem_append_right _ (by simp), d, hd, e⟩
      · rintro ⟨a, ha, d, hd, e⟩
        rcases List.mem_append.1 ha with ha | ha
        · exact .inl ⟨a, ha, d, hd, e⟩
        · have : a = n := by simpa using ha
          subst this
          exact .inr ⟨d, hd, e⟩
  · subst e hb'
    rw [List.length_map] at hm hlen
    rw [List.take_length] at hm
    obtain ⟨ls, e, h2, h3, h4⟩ := keys_sorted (rp := rp) (us := us) nd (by omega)
    refine zss_ret (e_bi (zes_cons (e_ok (v := ⟨.dct (ks.map .int) us, 0⟩) rfl (zes_nil (s_ok e ?_)))))
    exact q ls h2 fun x => by rw [h3, hm]
theorem r_sumsof {Q : Val → Nat → Prop} {A B : List Int} {t u : T} {b : Nat} (hr : isRow A t) (hu : isRow B u) (la : A.length ≤ 100) (lb : B.length ≤ 100) (q : ∀ ls : List Int, ls.Pairwise (· < ·) → (∀ x, x ∈ ls ↔ ∃ a ∈ A, ∃ d ∈ B, x = a + d) → Q ⟨li ls, 2⟩ b) : SAT Q W (rk rp (k + 1) i_sums_of [t, u]) b := by
  refine s_run (np := 2) (ns := 5) (bd := b_f_sums_of) rfl rfl ?_
  unfold b_f_sums_of b_f_sums_of_l1 b_f_sums_of_l2
  exact wsums_body rfl hr hu la lb q
theorem r_lws {Q : Val → Nat → Prop} {A B : List Int} {t u : T} {b : Nat} (hr : isRow A t) (hu : isRow B u) (la : A.length ≤ 100) (lb : B.length ≤ 100) (q : ∀ ls : List Int, ls.Pairwise (· < ·) → (∀ x, x ∈ ls ↔ ∃ a ∈ A, ∃ d ∈ B, x = a + d) → Q ⟨li ls, 2⟩ b) : SAT Q W (rk rp (k + 1) i__law_whole_sums [t, u]) b := by
  refine s_run (np := 2) (ns := 5) (bd := b_f__law_whole_sums) rfl rfl ?_
  unfold b_f__law_whole_sums b_f__law_whole_sums_l1 b_f__law_whole_sums_l2
  exact wsums_body rfl hr hu la lb q
theorem r_wsums {Q : Val → Nat → Prop} {A : List Int} {t : T} {b : Nat} (hr : isRow A t) (H : Wh A) (q : ∀ ls : List Int, ls.Pairwise (· < ·) → (∀ x, x ∈ ls ↔ ∃ a ∈ A, ∃ d ∈ A, x = a + d) → Q ⟨li ls, 2⟩ b) : SAT Q W (rk rp (k + 4) i_whole_sums [t, t]) b := by
  have h8 := H.le8
  refine s_run (np := 2) (ns := 2) (bd := b_f_whole_sums) rfl rfl ?_
  unfold b_f_whole_sums
  show SAT _ W (evSs rp _ (.cons _ _) [some t.rd, some t.rd]) b
  refine zss_exp (e_call (zes_cons (e_var (v := t.rd) rfl (zes_nil (r_cw (k := k) (row2 hr) H ?_)))))
  refine zss_exp (e_call (zes_cons (e_var (v := t.rd) rfl (zes_nil (r_cw (k := k) (row2 hr) H ?_)))))
  exact zss_ret (e_call (zes_cons (e_var (v := t.rd) rfl (zes_cons (e_var (v := t.rd) rfl (zes_nil (r_sumsof (k := k + 2) (row2 hr) (row2 hr) (by omega) (by omega) q)))))))
end
end Law

set_option Elab.async false
set_option linter.all false
set_option maxRecDepth 10000
set_option maxHeartbeats 400000
namespace Law
open PySem PySem.Spec L2 TM
/-- what a drawn lot is -/
structure W1 (ns : List Int) : Prop where
  srt : ns.Pairwise (· < ·)
  one : 1 ≤ ns.length
  le8 : ns.length ≤ 8
  sm : ∀ n ∈ ns, n.natAbs ≤ 5000
def stp_ (bg st : Int) (m : Nat) : List Int := (List.range m).map fun i : Nat => bg + st * i
theorem stp_len (bg st : Int) (m : Nat) : (stp_ bg st m).length = m := by unfold stp_; rw [List.length_map, List.length_range]
theorem stp_at {bg st : Int} {m i : Nat} (hi : i < (stp_ bg st m).length) : (stp_ bg st m)[i] = bg + st * i := by
  have h2 : i < ((List.range m).map fun i : Nat => bg + st * i).length := hi
  have : ((List.range m).map fun i : Nat => bg + st * i)[i] = bg + st * i := by rw [List.getElem_map, List.getElem_range]
  exact this
theorem stp_w {bg st : Int} {m : Nat} (h1 : 1 ≤ m) (h2 : m ≤ 8) (s1 : 1 ≤ st) (s2 : st ≤ 4) (b1 : bg.natAbs ≤ 400) : W1 (stp_ bg st m) := by
  refine ⟨?_, by rw [stp_len]; exact h1, by rw [stp_len]; exact h2, fun n hn => ?_⟩
  · unfold stp_
    rw [List.pairwise_map]
    refine List.pairwise_lt_range.imp fun {i j} h => ?_
    have := Int.mul_lt_mul_of_pos_left (show (i : Int) < j by omega) (show 0 < st by omega)
    omega
  · obtain ⟨i, hi, rfl⟩ := List.mem_map.1 hn
    rw [List.mem_range] at hi
    have a := Int.mul_le_mul_of_nonneg_right s2 (show (0 : Int) ≤ i by omega)
    have b := Int.mul_nonneg (show (0 : Int) ≤ st by omega) (show (0 : Int) ≤ i by omega)
    omega
theorem last_w {ns : List Int} {d : Int} (H : W1 ns) (h2 : 2 ≤ ns.length) (hb : ∀ n ∈ ns, n.natAbs ≤ 1000) (d0 : 0 ≤ d) (d9 : d ≤ 9) : W1 (ns.set (ns.length - 1) (ns.getD (ns.length - 2) 0 + 1 + d)) := by
  have hx : ns.getD (ns.length - 2) 0 = ns[ns.length - 2] := by
    rw [List.getD_eq_getElem?_getD, List.getElem?_eq_getElem (by omega)]; rfl
  have hm := hb _ (List.getElem_mem (show ns.length - 2 < ns.length by omega))
  generalize ns.getD (ns.length - 2) 0 = y at hx ⊢
  refine ⟨List.pairwise_iff_getElem.2 fun i j hi hj hij => ?_, by rw [List.length_set]; exact H.one, by rw [List.length_set]; exact H.le8, fun n hn => ?_⟩
  · rw [List.length_set] at hi hj
    rw [List.getElem_set, List.getElem_set, if_neg (by omega)]
    split
    · by_cases e : i = ns.length - 2
      · subst e; omega
      · have := FR.srt_at H.srt hi (show ns.length - 2 < ns.length by omega) (by omega)
        omega
    · exact FR.srt_at H.srt hi hj hij
  · rcases List.mem_or_eq_of_mem_set hn with h | h
    · exact H.sm n h
    · rw [h, hx]; omega
section
variable {rp : T → Str} {k : Nat} {W : Nat → T → Nat → Prop}
abbrev fW (bg wd mn wy st fd : Option Val) : TM.Env := [some ⟨.tok 1, 2⟩, ii 8, ii 400, bg, wd, mn, wy, st, fd, none]
/-- a comprehension of drawn pairs -/
theorem draws_lc {Q : Val → Nat → Prop} {call : Nat → List T → R Val} {τ : TM.Env} {bg wide : Int} {m b : Nat} (hm : m ≤ 8) (h9 : 9 < τ.length) (h0 : τ[0]? = some (some ⟨.tok 1, 2⟩)) (h3 : τ[3]? = some (ii bg)) (h4 : τ[4]? = some (ii wide)) (hw : 1 ≤ wide) (hw2 : wide ≤ 1000) (hb : m ≤ b)
    (hd : ∀ {W : Nat → T → Nat → Prop} {Q : Val → Nat → Prop} {n : Int} {b : Nat}, 0 < n → n < 1073741824 → 0 < b → (∀ i : Int, 0 ≤ i → i < n → Q ⟨.int i, 2⟩ (b - 1)) → SAT Q W (call i__law_draw [.tok 1, .int n]) b)
    (q : ∀ ns : List Int, ns.length = m → (∀ n ∈ ns, bg ≤ n ∧ n < bg + wide) → Q ⟨.lst (ns.map fun n => .tup [.int n, .int 0]), 2⟩ (b - m)) :
    SAT Q W (lcRun rp call (.tup (.cons (.bin .add (.var 3) (.call 0 (.cons (.var 0) (.cons (.var 4) .nil)))) (.cons (.cst (.int 0)) .nil))) (.nm 9) .nil [9] τ (rngT ((0 : Nat) : Int) m)) b := by
  refine ⟨?_⟩
  unfold lcRun
  refine sat_seq (sat_noexc' ?_)
  refine sat_lcTI (fun i acc b' => b' = b - i ∧ ∃ ns : List Int, acc = ns.map (fun n => (⟨.tup [.int n, .int 0], 2⟩ : Val)) ∧ ns.length = i ∧ ∀ n ∈ ns, bg ≤ n ∧ n < bg + wide) (i := 0) (acc := []) (fun j x acc b' hx ⟨hb', ns, e, hl, hn⟩ => ?_) (by rw [rngT_len]; show _ ≤ 16777216; omega) ⟨rfl, [], rfl, rfl, fun _ h => nomatch h⟩ fun r b' ⟨hb', ns, e, hl, hn⟩ hl2 => ?_
  · obtain ⟨rfl, hj⟩ := rngT_getN hx
    rw [Nat.zero_add] at hb' hl
    subst e hb'
    refine sat_let (show setTg (.nm 9) (T.int ((0 + j : Nat) : Int)).rd (wipes [9] τ) = .ok ((τ.set 9 none).set 9 (ii ((0 + j : Nat) : Int))) from rfl) ?_
    refine sat_let (show evCs rp call .nil _ = .ok true from by simp only [evCs]) ?_
    have g : ∀ s, s ≠ 9 → ((τ.set 9 none).set 9 (ii ((0 + j : Nat) : Int)))[s]? = τ[s]? := fun s hs => by
      rw [List.set_set, List.getElem?_set_ne (Ne.symm hs)]
    have hs : SAT (fun v b2 => ∃ n : Int, v = ⟨.tup [.int n, .int 0], 2⟩ ∧ bg ≤ n ∧ n < bg + wide ∧ b2 = b - j - 1) (fun _ _ _ => False) (evE rp call (.tup (.cons (.bin .add (.var 3) (.call 0 (.cons (.var 0) (.cons (.var 4) .nil)))) (.cons (.cst (.int 0)) .nil))) ((τ.set 9 none).set 9 (ii ((0 + j : Nat) : Int)))) (b - j) :=
      e_tup (zes_cons (e_bin (e_var (v := ⟨.int bg, 2⟩) ((g 3 (by decide)).trans h3) (e_call (zes_cons (e_var (v := ⟨.tok 1, 2⟩) ((g 0 (by decide)).trans h0) (zes_cons (e_var (v := ⟨.int wide, 2⟩) ((g 4 (by decide)).trans h4) (zes_nil (hd (n := wide) (by omega) (by omega) (by omega) fun d d0 d1 => s_ok (a := ⟨.int (bg + d), 2⟩) rfl (zes_cons (e_ok (v := ⟨.int 0, 2⟩) rfl (zes_nil (s_ok (a := ⟨.tup [.int (bg + d), .int 0], 2⟩) rfl ⟨bg + d, rfl, by omega, by omega, rfl⟩))))))))))))))
    refine sat_seq (hs.h.imp (fun v b2 ⟨n, e1, n1, n2, e2⟩ => ?_) fun _ _ _ z => z)
    subst e1 e2
    refine ⟨by omega, ns ++ [n], by rw [List.map_append]; rfl, by rw [List.length_append, hl, Nat.zero_add]; rfl, fun y hy => ?_⟩
    rcases List.mem_append.1 hy with hy | hy
    · exact hn y hy
    · rw [List.mem_singleton.1 hy]; exact ⟨n1, n2⟩
  · rw [List.nil_append] at e
    rw [Nat.zero_add, rngT_len] at hl hb'
    subst e hb'
    have e2 : ts (ns.map fun n => (⟨.tup [.int n, .int 0], 2⟩ : Val)) = ns.map fun n => T.tup [.int n, .int 0] := by
      unfold ts
      rw [List.map_map]; rfl
    show Sat Q W (mkList _) _
    rw [mkList_2 (fun v hv => by obtain ⟨x, _, rfl⟩ := List.mem_map.1 hv; rfl) (by rw [List.length_map]; omega), e2]
    exact q ns hl hn
theorem d_whole {Q : Val → Nat → Prop} {b : Nat} (hb : 40 ≤ b) (q : ∀ (ns : List Int) b', W1 ns → b ≤ b' + 40 → Q ⟨li ns, 2⟩ b') : SAT Q W (rk rp (k + 3) i__law_whole [.tok 1, .int 8, .int 400]) b := by
  refine s_run (np := 3) (ns := 10) (bd := b_f__law_whole) rfl rfl ?_
  have hd : ∀ {W : Nat → T → Nat → Prop} {Q : Val → Nat → Prop} {n : Int} {b : Nat}, 0 < n → n < 1073741824 → 0 < b → (∀ i : Int, 0 ≤ i → i < n → Q ⟨.int i, 2⟩ (b - 1)) → SAT Q W (rk rp (k + 2) i__law_draw [.tok 1, .int n]) b := fun a b c d => d_draw a b c d
  have hp : ∀ {W : Nat → T → Nat → Prop} {Q : Val → Nat → Prop} {xs : List T} {b : Nat}, xs ≠ [] → xs.length < 1000000 → 0 < b → (∀ x ∈ xs, Q x.rd (b - 1)) → SAT Q W (rk rp (k + 2) i__law_pick [.tok 1, .lst xs]) b := fun a b c d => d_pick (k := k) a b c d
  generalize rk rp (k + 2) = call at hd hp
  unfold b_f__law_whole
  show SAT _ W (evSs rp call (.cons _ _) (fW none none none none none none)) b
  refine zss_par (zes_cons (e_bin (e_ok (v := ⟨.int 1, 2⟩) rfl (e_call (zes_cons (e_var (v := ⟨.tok 1, 2⟩) (hide_in (i := 0) rfl rfl) (zes_cons (e_var (v := ⟨.int 8, 2⟩) (hide_in (i := 1) rfl rfl) (zes_nil (hd (n := 8) (by omega) (by omega) (by omega) fun d d0 d1 => s_ok (a := ⟨.int (1 + d), 2⟩) rfl ?_))))))))))
  refine zes_cons (e_call (zes_cons (e_var (v := ⟨.tok 1, 2⟩) (hide_in (i := 0) rfl rfl) (zes_cons (e_ok (v := ⟨.int 4, 2⟩) rfl (zes_nil (hd (n := 4) (by omega) (by omega) (by omega) fun y y0 y1 => zes_nil ?_)))))))
  obtain ⟨m, hm⟩ : ∃ m : Nat, 1 + d = (m : Int) := ⟨(1 + d).toNat, by omega⟩
  rw [hm]
  refine ⟨fW none none (ii m) (ii y) none none, rfl, ?_⟩
  refine zss_asg (e_bin (e_call (zes_cons (e_var (v := ⟨.tok 1, 2⟩) (hide_in (i := 0) rfl rfl) (zes_cons (e_bin (e_ok (v := ⟨.int 2, 2⟩) rfl (e_var (v := ⟨.int 400, 2⟩) (hide_in (i := 2) rfl rfl) (s_ok (a := ⟨.int 800, 2⟩) rfl (zes_nil (hd (n := 800) (by omega) (by omega) (by omega) fun g g0 g1 => e_var (v := ⟨.int 400, 2⟩) (hide_in (i := 2) rfl rfl) (s_ok (a := ⟨.int (g - 400), 2⟩) rfl ?_))))))))))))
  show SAT _ W (evSs rp call (.cons _ _) (fW (ii (g - 400)) none (ii m) (ii y) none none)) (b - 1 - 1 - 1)
  have hbg : (g - 400).natAbs ≤ 400 := by omega
  generalize g - 400 = bg at hbg ⊢
  refine zss_iff (e_cmp (e_ok (v := ⟨.int y, 2⟩) rfl (e_ok (v := ⟨.int 2, 2⟩) rfl (s_ok (a := decide (y < 2)) rfl ⟨_, rfl, ?_⟩))))
  by_cases hy : y < 2
  · rw [decide_eq_true hy, if_pos rfl]
    refine zss_asg (e_bin (e_ok (v := ⟨.int 1, 2⟩) rfl (e_call (zes_cons (e_var (v := ⟨.tok 1, 2⟩) (hide_in (i := 0) rfl rfl) (zes_cons (e_ok (v := ⟨.int 4, 2⟩) rfl (zes_nil (hd (n := 4) (by omega) (by omega) (by omega) fun s s0 s1 => s_ok (a := ⟨.int (1 + s), 2⟩) rfl ?_)))))))))
    show SAT _ W (evSs rp call (.cons _ _) (fW (ii bg) none (ii m) (ii y) (ii (1 + s)) none)) (b - 1 - 1 - 1 - 1)
    have hst : 1 ≤ 1 + s ∧ 1 + s ≤ 4 := by omega
    generalize 1 + s = st at hst ⊢
    have hS := stp_w (bg := bg) (st := st) (m := m) (by omega) (by omega) hst.1 hst.2 hbg
    have hSl := stp_len bg st m
    have hS1 : ∀ n ∈ stp_ bg st m, n.natAbs ≤ 1000 := fun n hn => by
      obtain ⟨i, hi, rfl⟩ := List.mem_map.1 hn
      rw [List.mem_range] at hi
      have a := Int.mul_le_mul_of_nonneg_right hst.2 (show (0 : Int) ≤ i by omega)
      have b := Int.mul_nonneg (show (0 : Int) ≤ st by omega) (show (0 : Int) ≤ i by omega)
      omega
    refine zss_asg (e_lcE (s_ok (rng1_ok (n := m) (l := 2) (by rw [evE, show (hide [5, 3, 7] (fW (ii bg) none (ii m) (ii y) (ii st) none))[5]? = some (ii m) from hide_in (i := 5) rfl rfl]; rfl) (by omega)) ?_))
    have hlc : ∀ {Q : Val → Nat → Prop} {b : Nat}, Q ⟨li (stp_ bg st m), 2⟩ b → SAT Q W (lcRun rp call (.bin .add (.var 3) (.bin .mul (.var 7) (.var 9))) (.nm 9) .nil [9] (hide [5, 3, 7] (fW (ii bg) none (ii m) (ii y) (ii st) none)) (rngT ((0 : Nat) : Int) m)) b := fun {Q b} q => by
      have e : rngT ((0 : Nat) : Int) m = (List.range m).map fun i : Nat => T.int i := by
        rw [rngT_map, List.range_eq_range']
      rw [e]
      refine lcM2 (fun i : Nat => .int (bg + st * i)) (by rw [List.length_range]; omega) (fun i hi => ?_) ?_
      · rw [List.mem_range] at hi
        refine ⟨_, rfl, ?_⟩
        refine e_bin (e_var (v := ⟨.int bg, 2⟩) ?_ (e_bin (e_var (v := ⟨.int st, 2⟩) ?_ (e_var (v := ⟨.int i, 2⟩) ?_ (s_ok (mul_ok (by omega)) (s_ok (a := ⟨.int (bg + st * i), 2⟩) rfl ⟨rfl, rfl⟩))))))
        · show (((hide [5, 3, 7] (fW (ii bg) none (ii m) (ii y) (ii st) none)).set 9 none).set 9 _)[3]? = _
          rw [List.set_set, List.getElem?_set_ne (by decide)]; exact hide_in (i := 3) rfl rfl
        · show (((hide [5, 3, 7] (fW (ii bg) none (ii m) (ii y) (ii st) none)).set 9 none).set 9 _)[7]? = _
          rw [List.set_set, List.getElem?_set_ne (by decide)]; exact hide_in (i := 7) rfl rfl
        · show (((hide [5, 3, 7] (fW (ii bg) none (ii m) (ii y) (ii st) none)).set 9 none).set 9 (some (T.int (i : Int)).rd))[9]? = _
          rw [List.set_set, List.getElem?_set_self (by rw [hide_len]; show 9 < 10; decide)]; rfl
      · have e2 : (List.range m).map (fun i : Nat => T.int (bg + st * i)) = (stp_ bg st m).map .int := by unfold stp_; rw [List.map_map]; rfl
        rw [e2]
        exact q
    refine hlc ?_
    show SAT _ W (evSs rp call (.cons _ _) (fW (ii bg) none (ii m) (ii y) (ii st) (some ⟨li (stp_ bg st m), 2⟩))) (b - 1 - 1 - 1 - 1)
    generalize stp_ bg st m = ns at hS hSl hS1 ⊢
    have fin : ∀ (ms : List Int) b', W1 ms → b ≤ b' + 40 → SAT (goOn rp call W (rtQ Q) (.cons (.asg (.nm 4) (.call 14 (.cons (.var 0) (.cons (.lst (.cons (.bin .add (.var 5) (.cst (.int 1))) (.cons (.bin .mul (.cst (.int 2)) (.var 5)) (.cons (.var 2) .nil)))) .nil))) [0, 5, 2]) (.cons (.ret (.bi .sorted (.cons (.bi .dict (.cons (.lc (.tup (.cons (.bin .add (.var 3) (.call 0 (.cons (.var 0) (.cons (.var 4) .nil)))) (.cons (.cst (.int 0)) .nil))) (.nm 9) (.rng1 (.var 5)) .nil [9]) .nil)) .nil))) .nil))) W (evSs rp call (.cons (.retv 8) .nil) (fW (ii bg) none (ii m) (ii y) (ii st) (some ⟨li ms, 2⟩))) b' := fun ms b' hW hb' => zss_retv (v := ⟨li ms, 2⟩) rfl (q ms b' hW hb')
    refine zss_iff (e_and (e_cmp (e_ok (v := ⟨.int y, 2⟩) rfl (e_ok (v := ⟨.int 1, 2⟩) rfl (s_ok (a := y == 1) rfl ⟨_, rfl, ?_⟩)))))
    by_cases hy1 : y = 1
    · rw [show (y == 1) = true from by rw [hy1]; rfl, if_pos rfl]
      refine e_cmp (e_ok (v := ⟨.int m, 2⟩) rfl (e_ok (v := ⟨.int 1, 2⟩) rfl (s_ok (a := decide ((1 : Int) < m)) rfl ⟨_, rfl, ?_⟩)))
      by_cases hm1 : (1 : Int) < m
      · rw [decide_eq_true hm1, if_pos rfl]
        have hN : evE rp call (.idx (.var 8) (.neg (.cst (.int 2)))) (hide [8, 0] (fW (ii bg) none (ii m) (ii y) (ii st) (some ⟨li ns, 2⟩))) = .ok ⟨.int (ns.getD (ns.length - 2) 0), 2⟩ := by
          simp only [evE]
          rw [show (hide [8, 0] (fW (ii bg) none (ii m) (ii y) (ii st) (some ⟨li ns, 2⟩)))[8]? = some (some ⟨li ns, 2⟩) from hide_in (i := 8) rfl rfl]
          show idxR (li ns) (.int (-((2 : Nat) : Int))) = _
          exact idx_rowN (.inl rfl) (by omega) (by omega)
        refine zss_stoZ (l := 2) (xs0 := ns.map .int) rfl (e_bin (e_bin (e_ok hN (e_ok (v := ⟨.int 1, 2⟩) rfl (s_ok (a := ⟨.int (ns.getD (ns.length - 2) 0 + 1), 2⟩) rfl (e_call (zes_cons (e_var (v := ⟨.tok 1, 2⟩) (hide_in (i := 0) rfl rfl) (zes_cons (e_ok (v := ⟨.int 9, 2⟩) rfl (zes_nil (hd (n := 9) (by omega) (by omega) (by omega) fun e e0 e1 => s_ok (a := ⟨.int (ns.getD (ns.length - 2) 0 + 1 + e), 2⟩) rfl ?_))))))))))))
        refine e_ok (v := ⟨.int (-1), 2⟩) rfl ⟨ns.map .int, 1, ns.length - 1, -1, rfl, rfl, ?_, ?_, ?_⟩
        · unfold ixZ
          rw [if_pos (by decide), List.length_map]; omega
        · show _ < (ns.map T.int).length
          rw [List.length_map]; omega
        · have e2 : (ns.map T.int).set (ns.length - 1) (.int (ns.getD (ns.length - 2) 0 + 1 + e)) = (ns.set (ns.length - 1) (ns.getD (ns.length - 2) 0 + 1 + e)).map .int := by rw [List.map_set]
          show SAT _ W (evSs rp call .nil ([some ⟨.tok 1, 2⟩, ii 8, ii 400, ii bg, none, ii m, ii y, ii st, some ⟨.lst ((ns.map T.int).set (ns.length - 1) (.int (ns.getD (ns.length - 2) 0 + 1 + e))), 2⟩, none])) _
          rw [e2]
          exact zss_nil (fin _ _ (last_w hS (by omega) hS1 e0 (by omega)) (by omega))
      · rw [decide_eq_false hm1, if_neg (by decide)]
        exact zss_nil (fin _ _ hS (by omega))
    · rw [show (y == 1) = false from by rw [beq_eq_false_iff_ne]; exact hy1, if_neg (by decide)]
      exact ⟨false, rfl, zss_nil (fin _ _ hS (by omega))⟩
  · rw [decide_eq_false hy, if_neg (by decide)]
    refine zss_nil ?_
    refine zss_asg (e_call (zes_cons (e_var (v := ⟨.tok 1, 2⟩) (hide_in (i := 0) rfl rfl) (zes_cons (e_lst (zes_cons (e_bin (e_var (v := ⟨.int m, 2⟩) (hide_in (i := 5) rfl rfl) (e_ok (v := ⟨.int 1, 2⟩) rfl (s_ok (a := ⟨.int ((m : Int) + 1), 2⟩) rfl ?_))))))))))
    refine zes_cons (e_bin (e_ok (v := ⟨.int 2, 2⟩) rfl (e_var (v := ⟨.int m, 2⟩) (hide_in (i := 5) rfl rfl) (s_ok (a := ⟨.int (2 * (m : Int)), 2⟩) (mul_ok (by decide)) (zes_cons (e_var (v := ⟨.int 400, 2⟩) (hide_in (i := 2) rfl rfl) (zes_nil (s_ok (a := ⟨.lst [.int ((m : Int) + 1), .int (2 * (m : Int)), .int 400], 2⟩) rfl (zes_nil ?_)))))))))
    refine hp (xs := [.int ((m : Int) + 1), .int (2 * (m : Int)), .int 400]) (by simp) (by show 3 < 1000000; decide) (by omega) fun x hx => ?_
    have key : ∀ wide : Int, 1 ≤ wide → wide ≤ 1000 → SAT (rtQ Q) W (evSs rp call (.cons (.ret (.bi .sorted (.cons (.bi .dict (.cons (.lc (.tup (.cons (.bin .add (.var 3) (.call 0 (.cons (.var 0) (.cons (.var 4) .nil)))) (.cons (.cst (.int 0)) .nil))) (.nm 9) (.rng1 (.var 5)) .nil [9]) .nil)) .nil))) .nil) (fW (ii bg) (ii wide) (ii m) (ii y) none none)) (b - 1 - 1 - 1 - 1) := fun wide w1 w2 => by
      refine zss_ret (e_bi (zes_cons (e_bi (zes_cons (e_lcE (s_ok (rng1_ok (n := m) (l := 2) rfl (by omega)) (draws_lc (m := m) (by omega) (by show 9 < 10; decide) rfl rfl rfl w1 w2 (by omega) hd fun ns hl hn => zes_nil ?_)))))))
      obtain ⟨dd, ls, e1, e2, e3, e4⟩ := lot_core (rp := rp) (ms := ns) (by omega)
      have hle : ls.length ≤ ns.length := nodup_le (e3.imp fun h => by omega) fun z hz => (e4 z).1 hz
      have hne : ls ≠ [] := fun e => by
        cases ns with
        | nil => simp at hl; omega
        | cons n ns =>
          have := (e4 n).2 List.mem_cons_self
          rw [e] at this
          cases this
      have := List.length_pos_iff.2 hne
      refine s_ok e1 (zes_nil (s_ok e2 (q ls _ ⟨e3, by omega, by omega, fun z hz => ?_⟩ (by omega))))
      have := hn z ((e4 z).1 hz)
      omega
    have hx : x = .int ((m : Int) + 1) ∨ x = .int (2 * (m : Int)) ∨ x = .int 400 := by simpa using hx
    rcases hx with rfl | rfl | rfl
    · exact key _ (by omega) (by omega)
    · exact key _ (by omega) (by omega)
    · exact key _ (by omega) (by omega)
end
end Law

set_option Elab.async false
set_option linter.all false
set_option maxRecDepth 10000
set_option maxHeartbeats 400000
namespace Law
open PySem PySem.Spec L2 TM
/-! ### the floor is kept -/
theorem bare_head {bs : List Int} {a : Int} {r : List Int} (e : bs = a :: r) (H : Wh bs) : bareF bs = 0 :: r.map fun x => (x - a) / gN bs := by
  subst e
  unfold bareF
  rw [List.map_cons]
  show (a - a) / _ :: _ = _
  rw [Int.sub_self, Int.zero_ediv]
  rfl
theorem gN_div {bs : List Int} (H : Wh bs) {x : Int} (hx : x ∈ bs) : (gN bs : Int) * ((x - hd0 bs) / gN bs) = x - hd0 bs := by
  have h1 := hd_le H.srt x hx
  have h2 := (gA_dvd (hd0 bs) bs 0).2.1 x hx
  have h3 : (gN bs : Int) ∣ x - hd0 bs := by
    rw [show x - hd0 bs = ((x - hd0 bs).toNat : Nat) from by omega]
    exact Int.natCast_dvd_natCast.2 h2
  exact Int.mul_ediv_cancel' h3
theorem sums_floor {bs ls : List Int} (H : Wh bs) (hs : ls.Pairwise (· < ·)) (hm : ∀ x, x ∈ ls ↔ ∃ a ∈ bs, ∃ d ∈ bs, x = a + d) : flF bs ≤ ls.length := by
  have g1 := gN_pos H
  have h2 := H.two
  have h8 := H.le8
  have hlt := hd_lt H
  obtain ⟨a, r, e⟩ : ∃ a r, bs = a :: r := by
    cases bs with
    | nil => simp at h2
    | cons a r => exact ⟨a, r, rfl⟩
  have ha : hd0 bs = a := by rw [e]; rfl
  have hcs := bare_head e H
  have hmono : ∀ x ∈ bs, ∀ y ∈ bs, x < y → (x - hd0 bs) / gN bs < (y - hd0 bs) / gN bs := fun x hx y hy hxy => by
    have e1 := gN_div H hx
    have e2 := gN_div H hy
    rcases Int.lt_or_le ((x - hd0 bs) / gN bs) ((y - hd0 bs) / gN bs) with q | q
    · exact q
    · have := Int.mul_le_mul_of_nonneg_left q (show (0 : Int) ≤ gN bs by omega)
      omega
  have csrt : (bareF bs).Pairwise (· < ·) := by
    unfold bareF
    rw [List.pairwise_map]
    exact List.pairwise_iff_getElem.2 fun i j hi hj hij => hmono _ (List.getElem_mem hi) _ (List.getElem_mem hj) (FR.srt_at H.srt hi hj hij)
  have clen : (bareF bs).length = bs.length := List.length_map ..
  have cmem : ∀ y ∈ bareF bs, ∃ x ∈ bs, y = (x - hd0 bs) / gN bs := fun y hy => by
    obtain ⟨x, hx, rfl⟩ := List.mem_map.1 hy
    exact ⟨x, hx, rfl⟩
  have cz : (ls0 bs - hd0 bs) / gN bs ∈ bareF bs := List.mem_map.2 ⟨_, ls_mem H, rfl⟩
  have cmax : ∀ y ∈ bareF bs, y ≤ (ls0 bs - hd0 bs) / gN bs := fun y hy => by
    obtain ⟨x, hx, rfl⟩ := cmem y hy
    rcases Int.lt_or_le x (ls0 bs) with q | q
    · have := hmono x hx _ (ls_mem H) q; omega
    · have := le_ls H x hx
      rw [show x = ls0 bs from by omega]
      exact Int.le_refl _
  have cG : FR.Gc 0 (bareF bs) := fun d hd1 hd => by
    have hdd : (d * gN bs).toNat ∣ gN bs := by
      refine (gA_dvd (hd0 bs) bs 0).2.2 _ (Nat.dvd_zero _) fun x hx => ?_
      have h1 := hd _ (List.mem_map.2 ⟨x, hx, rfl⟩)
      rw [Int.sub_zero] at h1
      have h3 := gN_div H hx
      have h4 := Int.mul_dvd_mul (Int.dvd_refl (gN bs : Int)) h1
      rw [h3] at h4
      have h5 := hd_le H.srt x hx
      have h6 : (0 : Int) ≤ d * gN bs := Int.mul_nonneg (by omega) (by omega)
      refine Int.natCast_dvd_natCast.1 ?_
      rw [show (((d * gN bs).toNat : Nat) : Int) = gN bs * d from by rw [Int.mul_comm (gN bs : Int)]; omega, show (((x - hd0 bs).toNat : Nat) : Int) = x - hd0 bs from by omega]
      exact h4
    have hle := Nat.le_of_dvd (by omega) hdd
    have h7 : d * gN bs ≤ 1 * gN bs := by omega
    have := Int.le_of_mul_le_mul_right h7 (by omega)
    omega
  have z0 : 0 ≤ (ls0 bs - hd0 bs) / (gN bs : Int) := Int.ediv_nonneg (by omega) (by omega)
  have hfr : FR.NS (bareF bs) (bs.length + min ((ls0 bs - hd0 bs) / (gN bs : Int)).toNat (2 * bs.length - 3)) := by
    rw [hcs] at csrt clen cz cmax cG ⊢
    have := FR.freiman csrt clen h2 h8 cz cmax cG
    rw [Int.sub_zero] at this
    exact this
  obtain ⟨L, nd, hL, hlen⟩ := FR.ns_map (bs := bs) (g := gN bs) (c := hd0 bs) (by omega) (fun y hy => by
    obtain ⟨x, hx, rfl⟩ := cmem y hy
    rw [gN_div H hx, show x - hd0 bs + hd0 bs = x from by omega]
    exact hx) hfr
  have := nodup_le nd (m := ls) fun x hx => (hm x).2 (hL x hx)
  unfold flF h3
  split <;> omega
/-! ### repr of them -/
theorem smallIs_w : ∀ {ns : List Int}, (∀ n ∈ ns, n.natAbs ≤ 10000) → smallIs (ns.map .int) = true
  | [], _ => rfl
  | n :: ns, hn => by
    show (Nat.blt n.natAbs 1000000000000 && smallIs (ns.map .int)) = true
    rw [smallIs_w fun m hm => hn m (List.mem_cons_of_mem _ hm)]
    have := hn n List.mem_cons_self
    rw [show Nat.blt n.natAbs 1000000000000 = true from by rw [Nat.blt_eq]; omega]
    rfl
theorem row_reprW {ns : List Int} {t : T} (hr : isRow ns t) (hn : ∀ n ∈ ns, n.natAbs ≤ 10000) (hl : ns.length ≤ 1000) : biT rpT .repr [t] = .ok ⟨.str (rpT t), 2⟩ := by
  have ok : t.okrepr = true := by
    have a := isdats_ints ns
    have b := smallIs_w hn
    have c := depths_ints ns
    have d := wts_ints ns
    rcases hr with rfl | rfl
    · show (isdats _ && (true && (smallIs _ && (Nat.ble (depths _ + 1) 60 && Nat.ble (wts _) 1048576)))) = true
      rw [a, b, c, d, Nat.ble_eq_true_of_le (show ns.length * 42 ≤ 1048576 by omega)]
      rfl
    · show (isdats _ && (true && (smallIs _ && (Nat.ble (depths _ + 1) 60 && Nat.ble (wts _) 1048576)))) = true
      rw [a, b, c, d, Nat.ble_eq_true_of_le (show ns.length * 42 ≤ 1048576 by omega)]
      rfl
  show (if t.okrepr = true then mk2 (.str (rpT t)) else R.stuck) = _
  rw [if_pos ok]
  rfl
section
variable {rp : T → Str} {k : Nat} {W : Nat → T → Nat → Prop}
theorem d_two {Q : Val → Nat → Prop} {b : Nat} (hb : 50 ≤ b) (q : ∀ (ns : List Int) l b', Wh ns → b ≤ b' + 50 → Q ⟨li ns, l⟩ b') : SAT Q W (rk rp (k + 4) i__law_two [.tok 1, .int 8, .int 400]) b := by
  refine s_run (np := 3) (ns := 4) (bd := b_f__law_two) rfl rfl ?_
  unfold b_f__law_two
  show SAT _ W (evSs rp _ (.cons _ _) [some ⟨.tok 1, 2⟩, ii 8, ii 400, none]) b
  refine zss_asg (e_call (zes_cons (e_var (v := ⟨.tok 1, 2⟩) (hide_in (i := 0) rfl rfl) (zes_cons (e_var (v := ⟨.int 8, 2⟩) (hide_in (i := 1) rfl rfl) (zes_cons (e_var (v := ⟨.int 400, 2⟩) (hide_in (i := 2) rfl rfl) (zes_nil (d_whole (k := k) (by omega) fun ns b' H hb' => ?_)))))))))
  have h1 := H.one
  have h8 := H.le8
  show SAT _ W (evSs rp _ (.cons _ _) [some ⟨.tok 1, 2⟩, ii 8, ii 400, some ⟨li ns, 2⟩]) b'
  refine zss_ret (e_ite (e_cmp (e_bi (zes_cons (e_var (v := ⟨li ns, 2⟩) rfl (zes_nil (s_ok (len_row (ns := ns) (.inl rfl)) (e_ok (v := ⟨.int 1, 2⟩) rfl (s_ok (a := decide ((1 : Int) < ns.length)) rfl ⟨_, rfl, ?_⟩)))))))))
  by_cases hl : (1 : Int) < ns.length
  · rw [decide_eq_true hl]
    refine e_var (v := ⟨li ns, 2⟩) rfl (q ns 0 b' ⟨H.srt, by omega, h8, fun n hn => by have := H.sm n hn; omega⟩ (by omega))
  · rw [decide_eq_false hl]
    have hm : hd0 ns ∈ ns := by
      cases ns with
      | nil => simp at h1
      | cons a r => exact List.mem_cons_self
    have hs := H.sm _ hm
    refine e_lst (zes_cons (e_ok (hd_ok (v := ⟨li ns, 2⟩) rfl (.inl rfl) (by omega)) (zes_cons (e_bin (e_bin (e_ok (hd_ok (v := ⟨li ns, 2⟩) rfl (.inl rfl) (by omega)) (e_ok (v := ⟨.int 1, 2⟩) rfl (s_ok (a := ⟨.int (hd0 ns + 1), 2⟩) rfl (e_call (zes_cons (e_ok (v := ⟨.tok 1, 2⟩) rfl (zes_cons (e_ok (v := ⟨.int 9, 2⟩) rfl (zes_nil (d_draw (k := k + 2) (n := 9) (by omega) (by omega) (by omega) fun d d0 d1 => s_ok (a := ⟨.int (hd0 ns + 1 + d), 2⟩) rfl (zes_nil (s_ok (a := ⟨li [hd0 ns, hd0 ns + 1 + d], 2⟩) rfl (q [hd0 ns, hd0 ns + 1 + d] 2 (b' - 1) ⟨by simp; omega, Nat.le_refl 2, (show 2 ≤ 8 by decide), fun n hn => ?_⟩ (by omega)))))))))))))))))))
    have hn : n = hd0 ns ∨ n = hd0 ns + 1 + d := by simpa using hn
    rcases hn with rfl | rfl <;> omega
end
/-- what the turn calls -/
structure Calls (call : Nat → List T → R Val) : Prop where
  two : ∀ {W : Nat → T → Nat → Prop} {Q : Val → Nat → Prop} {b : Nat}, 50 ≤ b → (∀ (ns : List Int) l b', Wh ns → b ≤ b' + 50 → Q ⟨li ns, l⟩ b') → SAT Q W (call i__law_two [.tok 1, .int 8, .int 400]) b
  loose : ∀ {W : Nat → T → Nat → Prop} {Q : Val → Nat → Prop} {ns : List Int} {t : T} {b : Nat}, isRow ns t → ns.length ≤ 1000 → 0 < b → (∀ t l, isRow ns t → Q ⟨t, l⟩ (b - 1)) → SAT Q W (call i__law_loose [.tok 1, t]) b
  lhull : ∀ {W : Nat → T → Nat → Prop} {Q : Val → Nat → Prop} {ns : List Int} {t : T} {b : Nat}, isRow ns t → Wh ns → Q ⟨hullT ns, 2⟩ b → SAT Q W (call i__law_hull [t]) b
  hull : ∀ {W : Nat → T → Nat → Prop} {Q : Val → Nat → Prop} {ns : List Int} {t : T} {b : Nat}, isRow ns t → Wh ns → Q ⟨hullT ns, 2⟩ b → SAT Q W (call i_hull [t]) b
  floor : ∀ {W : Nat → T → Nat → Prop} {Q : Val → Nat → Prop} {ns : List Int} {t : T} {b : Nat}, isRow ns t → Wh ns → Q ⟨.int (flF ns), 2⟩ b → SAT Q W (call i_sum_floor [t]) b
  bare : ∀ {W : Nat → T → Nat → Prop} {Q : Val → Nat → Prop} {ns : List Int} {t : T} {b : Nat}, isRow ns t → Wh ns → Q ⟨li (bareF ns), 2⟩ b → SAT Q W (call i_bare [t]) b
  lbare : ∀ {W : Nat → T → Nat → Prop} {Q : Val → Nat → Prop} {ns : List Int} {t : T} {b : Nat}, isRow ns t → Wh ns → Q ⟨li (bareF ns), 2⟩ b → SAT Q W (call i__law_bare [t]) b
  lws : ∀ {W : Nat → T → Nat → Prop} {Q : Val → Nat → Prop} {A B : List Int} {t u : T} {b : Nat}, isRow A t → isRow B u → A.length ≤ 100 → B.length ≤ 100 → (∀ ls : List Int, ls.Pairwise (· < ·) → (∀ x, x ∈ ls ↔ ∃ a ∈ A, ∃ d ∈ B, x = a + d) → Q ⟨li ls, 2⟩ b) → SAT Q W (call i__law_whole_sums [t, u]) b
  wsums : ∀ {W : Nat → T → Nat → Prop} {Q : Val → Nat → Prop} {A : List Int} {t : T} {b : Nat}, isRow A t → Wh A → (∀ ls : List Int, ls.Pairwise (· < ·) → (∀ x, x ∈ ls ↔ ∃ a ∈ A, ∃ d ∈ A, x = a + d) → Q ⟨li ls, 2⟩ b) → SAT Q W (call i_whole_sums [t, t]) b
  same : ∀ t, sameOk 3 t → call i__law_same [t, t] = .ok ⟨.bl true, 2⟩
theorem calls (rp : T → Str) : Calls (rk rp 25) where
  two := d_two (k := 21)
  loose := d_loose (k := 23)
  lhull := r_lhull (k := 23)
  hull := r_hull (k := 20)
  floor := r_floor (k := 20)
  bare := r_bare (k := 20)
  lbare := r_lbare (k := 22)
  lws := r_lws (k := 24)
  wsums := r_wsums (k := 21)
  same := fun t ht => sm_all (k := 21) 3 t ht
end Law

set_option Elab.async false
set_option linter.all false
set_option maxRecDepth 10000
set_option maxHeartbeats 400000
namespace Law
open PySem PySem.Spec L2 TM
abbrev G (a i : Nat) (v3 v4 v5 v6 v7 v8 v9 v10 v11 : Option Val) : TM.Env := [some ⟨.tok (a + 2), 2⟩, some ⟨.tok 1, 2⟩, ii i, v3, v4, v5, v6, v7, v8, v9, v10, v11]
def tlS : Ss → Ss
  | .cons _ ss => ss
  | .kill _ ss => ss
  | .nil => .nil
def t1 : Ss := tlS b_law_bd
def t2 : Ss := tlS t1
def t3 : Ss := tlS t2
def t4 : Ss := tlS t3
def t5 : Ss := tlS t4
def t6 : Ss := tlS t5
def t7 : Ss := tlS t6
def t8 : Ss := tlS t7
def t9 : Ss := tlS t8
def t10 : Ss := tlS t9
section
variable {call : Nat → List T → R Val} {W : Nat → T → Nat → Prop} {a i b : Nat} {ns : List Int}
theorem end_9 (C : Calls call) {t : T} {lt l3 : Nat} {v4 v5 : Option Val} {ls : List Int} (H : Wh ns) (hr : isRow ns t) (hs : ls.Pairwise (· < ·)) (hm : ∀ x, x ∈ ls ↔ ∃ a ∈ ns, ∃ d ∈ ns, x = a + d) :
    SAT (turnOk 12 a) W (evSs rpT call t9 (G a i (some ⟨li ns, l3⟩) v4 v5 (ii ls.length) (some ⟨t, lt⟩) (some ⟨hullT ns, 2⟩) (ii ns.length) (some ⟨.str (rpT t), 2⟩) (ii (flF ns)))) b := by
  have h2 := H.two
  have h8 := H.le8
  have hfl := sums_floor H hs hm
  have sB : sameOk 2 (li (bareF ns)) := same_ints _ (by unfold bareF; rw [List.length_map]; omega)
  have s3 : sameOk 3 (.lst [li (bareF ns), .int ls.length]) := ⟨by show 2 ≤ 1000000; decide, fun x hx => by
    have hx : x = li (bareF ns) ∨ x = .int ls.length := by simpa using hx
    rcases hx with rfl | rfl
    · exact sB
    · exact trivial⟩
  have end10 : SAT (turnOk 12 a) W (evSs rpT call t10 (G a i (some ⟨li ns, l3⟩) v4 v5 (ii ls.length) (some ⟨t, lt⟩) (some ⟨hullT ns, 2⟩) (ii ns.length) (some ⟨.str (rpT t), 2⟩) (ii (flF ns)))) b := by
    show SAT _ W (evSs rpT call (.cons _ _) _) b
    have rest : SAT (fun u b1 => u.t = .bl false ∧ SAT (turnOk 12 a) W (evSs rpT call .nil (G a i (some ⟨li ns, l3⟩) v4 v5 (ii ls.length) (some ⟨t, lt⟩) (some ⟨hullT ns, 2⟩) (ii ns.length) (some ⟨.str (rpT t), 2⟩) (ii (flF ns)))) b1) W (evE rpT call (.cmp .ne (.bi .repr (.cons (.var 7) .nil)) (.var 10)) (G a i (some ⟨li ns, l3⟩) v4 v5 (ii ls.length) (some ⟨t, lt⟩) (some ⟨hullT ns, 2⟩) (ii ns.length) (some ⟨.str (rpT t), 2⟩) (ii (flF ns)))) b := by
      refine e_cmp (e_bi (zes_cons (e_var (v := ⟨t, lt⟩) rfl (zes_nil (s_ok (row_reprW (t := t.rd.t) (row1 hr) H.sm (by omega)) (e_ok (v := ⟨.str (rpT t), 2⟩) rfl (s_ok (a := false) ?_ ⟨rfl, zss_nil ⟨rfl, 2, rfl⟩⟩)))))))
      rw [rd_t]
      exact ne_same (rp_eqok hr)
    refine zss_iff0 (e_or (e_and (e_cmp (e_ok (v := ⟨.int ls.length, 2⟩) rfl (e_bin (e_bin (e_ok (v := ⟨.int 3, 2⟩) rfl (e_ok (v := ⟨.int ns.length, 2⟩) rfl (s_ok (mul_ok (by decide)) (e_ok (v := ⟨.int 4, 2⟩) rfl (s_ok (a := ⟨.int (3 * (ns.length : Int) - 4), 2⟩) rfl (s_ok (a := decide ((ls.length : Int) ≤ 3 * (ns.length : Int) - 4)) rfl ⟨_, rfl, ?_⟩))))))))))))
    by_cases hc : (ls.length : Int) ≤ 3 * (ns.length : Int) - 4
    · rw [decide_eq_true hc, if_pos rfl]
      refine e_cmp (e_ok (v := ⟨.int (h3 ns), 2⟩) rfl (e_bin (e_bin (e_ok (v := ⟨.int ls.length, 2⟩) rfl (e_ok (v := ⟨.int ns.length, 2⟩) rfl (s_ok (a := ⟨.int ((ls.length : Int) - ns.length), 2⟩) rfl (e_ok (v := ⟨.int 1, 2⟩) rfl (s_ok (a := ⟨.int ((ls.length : Int) - ns.length + 1), 2⟩) rfl (s_ok (a := decide ((ls.length : Int) - ns.length + 1 < h3 ns)) rfl ?_)))))))))
      have : ¬ (ls.length : Int) - ns.length + 1 < h3 ns := by
        unfold flF at hfl
        split at hfl <;> omega
      rw [decide_eq_false this]
      exact ⟨false, rfl, rest⟩
    · rw [decide_eq_false hc, if_neg (by decide)]
      exact ⟨false, rfl, rest⟩
  show SAT _ W (evSs rpT call (.cons _ _) _) b
  refine zss_iff0 (e_or (e_not (e_call (zes_cons (e_lst (zes_cons (e_call (zes_cons (e_var (v := ⟨t, lt⟩) rfl (zes_nil (C.bare (row1 hr) H (zes_cons (e_bi (zes_cons (e_call (zes_cons (e_var (v := ⟨t, lt⟩) rfl (zes_cons (e_var (v := ⟨t, lt⟩) rfl (zes_nil (C.wsums (row1 hr) H fun ls2 hs2 hm2 => zes_nil ?_)))))))))))))))))))))
  have e2 : ls2 = ls := rise_ext hs2 hs fun x => by rw [hm2, hm]
  rw [e2]
  refine s_ok (len_row (ns := ls) (.inl rfl)) (zes_nil (s_ok (a := ⟨.lst [li (bareF ns), .int ls.length], 2⟩) rfl ?_))
  refine zes_cons (e_lst (zes_cons (e_call (zes_cons (e_var (v := ⟨li ns, l3⟩) rfl (zes_nil (C.lbare (.inl rfl) H (zes_cons (e_ok (v := ⟨.int ls.length, 2⟩) rfl (zes_nil (s_ok (a := ⟨.lst [li (bareF ns), .int ls.length], 2⟩) rfl (zes_nil (s_ok (C.same _ s3) ⟨true, rfl, false, rfl, ?_⟩)))))))))))))
  refine e_cmp (e_ok (v := ⟨.int ls.length, 2⟩) rfl (e_ok (v := ⟨.int (flF ns), 2⟩) rfl (s_ok (a := decide ((ls.length : Int) < flF ns)) rfl ?_)))
  rw [decide_eq_false (by omega)]
  exact ⟨rfl, end10⟩
theorem end_5 (C : Calls call) {t : T} {lt l3 : Nat} {v4 v6 : Option Val} (H : Wh ns) (hr : isRow ns t) :
    SAT (turnOk 12 a) W (evSs rpT call t5 (G a i (some ⟨li ns, l3⟩) v4 none v6 (some ⟨t, lt⟩) (some ⟨hullT ns, 2⟩) (ii ns.length) (some ⟨.str (rpT t), 2⟩) (ii (flF ns)))) b := by
  have h8 := H.le8
  have bl : (bareF ns).length ≤ 8 := by unfold bareF; rw [List.length_map]; omega
  have sB : sameOk 2 (li (bareF ns)) := same_ints _ (by omega)
  have s3 : sameOk 3 (.lst [li (bareF ns), li (bareF ns)]) := ⟨by show 2 ≤ 1000000; decide, fun x hx => by
    have hx : x = li (bareF ns) := by simpa using hx
    subst hx; exact sB⟩
  show SAT _ W (evSs rpT call (.cons _ _) _) b
  refine zss_asg (e_lst (zes_cons (e_call (zes_cons (e_var (v := ⟨t, lt⟩) (hide_in (i := 7) rfl rfl) (zes_nil (C.bare (row1 hr) H (zes_cons (e_callk (zes_nil (zes_cons (e_bi (zes_cons (e_var (v := ⟨li ns, l3⟩) (hide_in (i := 3) rfl rfl) (zes_nil (s_ok (a := ⟨li ns, lvl (ns.map T.int)⟩) rfl (zes_nil (C.bare (ns := ns) (t := li ns) (.inl rfl) H (zes_nil (s_ok (a := ⟨.lst [li (bareF ns), li (bareF ns)], 2⟩) rfl ?_))))))))))))))))))))
  show SAT _ W (evSs rpT call (.cons _ _) (G a i (some ⟨li ns, l3⟩) v4 (some ⟨.lst [li (bareF ns), li (bareF ns)], 2⟩) v6 (some ⟨t, lt⟩) (some ⟨hullT ns, 2⟩) (ii ns.length) (some ⟨.str (rpT t), 2⟩) (ii (flF ns)))) b
  refine zss_iff0 (e_not (e_call (zes_cons (e_ok (v := ⟨.lst [li (bareF ns), li (bareF ns)], 0⟩) rfl (zes_cons (e_bin (e_lst (zes_cons (e_call (zes_cons (e_var (v := ⟨li ns, l3⟩) rfl (zes_nil (C.lbare (.inl rfl) H (zes_nil (s_ok (a := ⟨.lst [li (bareF ns)], 2⟩) rfl (e_ok (v := ⟨.int 2, 2⟩) rfl (s_ok (a := ⟨.lst [li (bareF ns), li (bareF ns)], lvl [li (bareF ns)]⟩) rfl (zes_nil (s_ok (C.same _ s3) ⟨true, rfl, rfl, ?_⟩)))))))))))))))))))
  show SAT _ W (evSs rpT call (.cons _ _) _) b
  refine zss_spoil (l := 0) (t := .lst [li (bareF ns), li (bareF ns)]) rfl (spo3_two (fits_ints (by omega)) (by rw [met_ints]; decide)) ?_ ?_
  · show max (depths ((bareF ns).map T.int) + 1) (max (depths ((bareF ns).map T.int) + 1) 0) + 1 ≤ 6
    rw [depths_ints]
    decide
  show SAT _ W (evSs rpT call (.cons _ _) (G a i (some ⟨li ns, l3⟩) v4 none v6 (some ⟨t, lt⟩) (some ⟨hullT ns, 2⟩) (ii ns.length) (some ⟨.str (rpT t), 2⟩) (ii (flF ns)))) b
  refine zss_asg (e_bi (zes_cons (e_call (zes_cons (e_var (v := ⟨li ns, l3⟩) (hide_in (i := 3) rfl rfl) (zes_cons (e_var (v := ⟨li ns, l3⟩) (hide_in (i := 3) rfl rfl) (zes_nil (C.lws (A := ns) (B := ns) (.inl rfl) (.inl rfl) (by omega) (by omega) fun ls hs hm => zes_nil (s_ok (len_row (ns := ls) (.inl rfl)) ?_))))))))))
  exact end_9 C H hr hs hm
theorem end_2 (C : Calls call) {t : T} {lt l3 : Nat} (H : Wh ns) (hr : isRow ns t) :
    SAT (turnOk 12 a) W (evSs rpT call t2 (G a i (some ⟨li ns, l3⟩) none none none (some ⟨t, lt⟩) (some ⟨hullT ns, 2⟩) (ii ns.length) none none)) b := by
  have h8 := H.le8
  show SAT _ W (evSs rpT call (.cons _ _) _) b
  refine zss_par (zes_cons (e_bi (zes_cons (e_var (v := ⟨t, lt⟩) (hide_in (i := 7) rfl rfl) (zes_nil (s_ok (row_reprW (t := t.rd.t) (row1 hr) H.sm (by omega)) ?_ ))))))
  rw [rd_t]
  have hx : evE rpT call (.idx (.var 8) (.cst (.int 2))) (hide [7, 9, 8] (G a i (some ⟨li ns, l3⟩) none none none (some ⟨t, lt⟩) (some ⟨hullT ns, 2⟩) (ii ns.length) none none)) = .ok ⟨.int (h3 ns), 2⟩ := by
    simp only [evE]
    rw [show (hide [7, 9, 8] (G a i (some ⟨li ns, l3⟩) none none none (some ⟨t, lt⟩) (some ⟨hullT ns, 2⟩) (ii ns.length) none none))[8]? = some (some ⟨hullT ns, 2⟩) from hide_in (i := 8) rfl rfl]
    rfl
  refine zes_cons (e_bin (e_var (v := ⟨.int ns.length, 2⟩) (hide_in (i := 9) rfl rfl) (e_bi (zes_cons (e_bin (e_ok hx (e_ok (v := ⟨.int 1, 2⟩) rfl (s_ok (a := ⟨.int (h3 ns - 1), 2⟩) rfl (zes_cons (e_bin (e_bin (e_ok (v := ⟨.int 2, 2⟩) rfl (e_var (v := ⟨.int ns.length, 2⟩) (hide_in (i := 9) rfl rfl) (s_ok (mul_ok (by decide)) (e_ok (v := ⟨.int 3, 2⟩) rfl (s_ok (a := ⟨.int (2 * (ns.length : Int) - 3), 2⟩) rfl (zes_nil (s_ok (a := ⟨.int (if 2 * (ns.length : Int) - 3 < h3 ns - 1 then 2 * (ns.length : Int) - 3 else h3 ns - 1), 2⟩) rfl (s_ok (a := ⟨.int (flF ns), 2⟩) rfl (zes_nil ?_))))))))))))))))))))
  refine ⟨G a i (some ⟨li ns, l3⟩) none none none (some ⟨t, lt⟩) (some ⟨hullT ns, 2⟩) (ii ns.length) (some ⟨.str (rpT t), 2⟩) (ii (flF ns)), rfl, ?_⟩
  show SAT _ W (evSs rpT call (.cons _ _) _) b
  refine zss_asg (e_lst (zes_cons (e_call (zes_cons (e_var (v := ⟨t, lt⟩) (hide_in (i := 7) rfl rfl) (zes_nil (C.hull (row1 hr) H (zes_cons (e_callk (zes_nil (zes_cons (e_bi (zes_cons (e_var (v := ⟨li ns, l3⟩) (hide_in (i := 3) rfl rfl) (zes_nil (s_ok (a := ⟨li ns, lvl (ns.map T.int)⟩) rfl (zes_nil (C.hull (ns := ns) (t := li ns) (.inl rfl) H ?_))))))))))))))))))
  refine zes_cons (e_call (zes_cons (e_var (v := ⟨t, lt⟩) (hide_in (i := 7) rfl rfl) (zes_nil (C.floor (row1 hr) H (zes_cons (e_callk (zes_nil (zes_cons (e_bi (zes_cons (e_var (v := ⟨li ns, l3⟩) (hide_in (i := 3) rfl rfl) (zes_nil (s_ok (a := ⟨li ns, lvl (ns.map T.int)⟩) rfl (zes_nil (C.floor (ns := ns) (t := li ns) (.inl rfl) H (zes_nil (s_ok (a := ⟨.lst [hullT ns, hullT ns, .int (flF ns), .int (flF ns)], 2⟩) rfl ?_))))))))))))))))))
  show SAT _ W (evSs rpT call (.cons _ _) (G a i (some ⟨li ns, l3⟩) (some ⟨.lst [hullT ns, hullT ns, .int (flF ns), .int (flF ns)], 2⟩) none none (some ⟨t, lt⟩) (some ⟨hullT ns, 2⟩) (ii ns.length) (some ⟨.str (rpT t), 2⟩) (ii (flF ns)))) b
  have sH : sameOk 2 (hullT ns) := ⟨by show 3 ≤ 1000000; decide, fun x hx => by
    have hx : x = .int (gN ns) ∨ x = .int (hd0 ns) ∨ x = .int (h3 ns) := by simpa using hx
    rcases hx with rfl | rfl | rfl <;> exact trivial⟩
  have s3 : sameOk 3 (.lst [hullT ns, hullT ns, .int (flF ns), .int (flF ns)]) := ⟨by show 4 ≤ 1000000; decide, fun x hx => by
    have hx : x = hullT ns ∨ x = .int (flF ns) := by simpa using hx
    rcases hx with rfl | rfl
    · exact sH
    · exact trivial⟩
  refine zss_iff0 (e_not (e_call (zes_cons (e_ok (v := ⟨.lst [hullT ns, hullT ns, .int (flF ns), .int (flF ns)], 0⟩) rfl (zes_cons (e_lst (zes_cons (e_ok (v := ⟨hullT ns, 2⟩) rfl (zes_cons (e_ok (v := ⟨hullT ns, 2⟩) rfl (zes_cons (e_ok (v := ⟨.int (flF ns), 2⟩) rfl (zes_cons (e_ok (v := ⟨.int (flF ns), 2⟩) rfl (zes_nil (s_ok (a := ⟨.lst [hullT ns, hullT ns, .int (flF ns), .int (flF ns)], 2⟩) rfl (zes_nil (s_ok (C.same _ s3) ⟨true, rfl, rfl, ?_⟩))))))))))))))))))
  exact end_5 C H hr
theorem turn (C : Calls call) (hb : 100 ≤ b) : SAT (turnOk 12 a) W (evSs rpT call b_law_bd (lawEnvF 12 2 a i)) b := by
  show SAT _ W (evSs rpT call (.cons _ _) (G a i none none none none none none none none none)) b
  refine zss_asg (e_call (zes_cons (e_var (v := ⟨.tok 1, 2⟩) (hide_in (i := 1) rfl rfl) (zes_cons (e_ok (v := ⟨.int 8, 2⟩) rfl (zes_cons (e_ok (v := ⟨.int 400, 2⟩) rfl (zes_nil (C.two (by omega) fun ns l b' H hb' => ?_)))))))))
  have h8 := H.le8
  have ha : after [1] (⟨li ns, l⟩ : Val) (G a i none none none none none none none none none) = G a i none none none none none none none none none := by
    unfold after
    dsimp only
    split
    · rfl
    · split <;> rfl
  show SAT _ W (evSs rpT call t1 ((after [1] (⟨li ns, l⟩ : Val) (G a i none none none none none none none none none)).set 3 (some ⟨li ns, l⟩))) b'
  rw [ha]
  show SAT _ W (evSs rpT call (.cons _ _) (G a i (some ⟨li ns, l⟩) none none none none none none none none)) b'
  refine zss_par (zes_cons (e_call (zes_cons (e_var (v := ⟨.tok 1, 2⟩) (hide_in (i := 1) rfl rfl) (zes_cons (e_var (v := ⟨li ns, l⟩) (hide_in (i := 3) rfl rfl) (zes_nil (C.loose (ns := ns) (.inl rfl) (by omega) (by omega) fun t lt hr => ?_))))))))
  refine zes_cons (e_call (zes_cons (e_var (v := ⟨li ns, l⟩) (hide_in (i := 3) rfl rfl) (zes_nil (C.lhull (.inl rfl) H (zes_cons (e_bi (zes_cons (e_var (v := ⟨li ns, l⟩) (hide_in (i := 3) rfl rfl) (zes_nil (s_ok (len_row (ns := ns) (.inl rfl)) (zes_nil ?_))))))))))))
  cases hall : all2 [(⟨t, lt⟩ : Val), ⟨hullT ns, 2⟩, ⟨.int ns.length, 2⟩] with
  | true => exact ⟨G a i (some ⟨li ns, l⟩) none none none (some ⟨t, lt⟩) (some ⟨hullT ns, 2⟩) (ii ns.length) none none, rfl, end_2 C H hr⟩
  | false => exact ⟨G a i (some ⟨li ns, 0⟩) none none none (some ⟨t, lt⟩) (some ⟨hullT ns, 2⟩) (ii ns.length) none none, rfl, end_2 C H hr⟩
theorem lawrun : LawRunF rpT P (24 + 1) nsLaw 2 10 b_law_bd b_law := by
  refine ⟨fun a i hi => (turn (calls rpT) (by unfold BUD; omega)).h, ?_⟩
  have : SAT isTrueO (fun _ _ _ => False) (evSs rpT (rk rpT 25) b_law (List.replicate 12 none)) BUD := zss_ret (e_ok (v := ⟨.bl true, 2⟩) rfl ⟨2, rfl⟩)
  exact this.h
end
end Law

set_option Elab.async false
set_option linter.all false
set_option maxRecDepth 100000
set_option maxHeartbeats 8000000
namespace Law
open PySem PySem.Spec L2 TM

abbrev s_f__law_draw : Stmt := top 22
def d_f__law_draw : DI := ⟨defBody s_f__law_draw, defScope s_f__law_draw, ["stream", "many", "cell", "digit", "mixed"]⟩
def D_f__law_draw : He.DefD := ⟨("_law_draw", none), "_law_draw", "_law_draw", defArgs s_f__law_draw, defBody s_f__law_draw, defScope s_f__law_draw, [], []⟩
abbrev s_f_is_list : Stmt := top 1
def d_f_is_list : DI := ⟨defBody s_f_is_list, defScope s_f_is_list, ["thing"]⟩
def D_f_is_list : He.DefD := ⟨("is_list", none), "is_list", "is_list", defArgs s_f_is_list, defBody s_f_is_list, defScope s_f_is_list, [], []⟩
abbrev s_f_is_whole : Stmt := top 2
def d_f_is_whole : DI := ⟨defBody s_f_is_whole, defScope s_f_is_whole, ["thing"]⟩
def D_f_is_whole : He.DefD := ⟨("is_whole", none), "is_whole", "is_whole", defArgs s_f_is_whole, defBody s_f_is_whole, defScope s_f_is_whole, [], []⟩
abbrev s_f_is_rising : Stmt := top 3
def d_f_is_rising : DI := ⟨defBody s_f_is_rising, defScope s_f_is_rising, ["things", "one", "other"]⟩
def D_f_is_rising : He.DefD := ⟨("is_rising", none), "is_rising", "is_rising", defArgs s_f_is_rising, defBody s_f_is_rising, defScope s_f_is_rising, [], []⟩
abbrev s_f_divisor_of : Stmt := top 4
def d_f_divisor_of : DI := ⟨defBody s_f_divisor_of, defScope s_f_divisor_of, ["one", "other"]⟩
def D_f_divisor_of : He.DefD := ⟨("divisor_of", none), "divisor_of", "divisor_of", defArgs s_f_divisor_of, defBody s_f_divisor_of, defScope s_f_divisor_of, [], []⟩
abbrev s_f_check_whole : Stmt := top 11
def d_f_check_whole : DI := ⟨defBody s_f_check_whole, defScope s_f_check_whole, ["lot", "number"]⟩
def D_f_check_whole : He.DefD := ⟨("check_whole", none), "check_whole", "check_whole", defArgs s_f_check_whole, defBody s_f_check_whole, defScope s_f_check_whole, [], []⟩
abbrev s_f_check_two : Stmt := top 12
def d_f_check_two : DI := ⟨defBody s_f_check_two, defScope s_f_check_two, ["lots", "lot", "which"]⟩
def D_f_check_two : He.DefD := ⟨("check_two", none), "check_two", "check_two", defArgs s_f_check_two, defBody s_f_check_two, defScope s_f_check_two, [], []⟩
abbrev s_f_sums_of : Stmt := top 13
def d_f_sums_of : DI := ⟨defBody s_f_sums_of, defScope s_f_sums_of, ["one", "other", "found", "number", "second"]⟩
def D_f_sums_of : He.DefD := ⟨("sums_of", none), "sums_of", "sums_of", defArgs s_f_sums_of, defBody s_f_sums_of, defScope s_f_sums_of, [], []⟩
abbrev s_f_whole_sums : Stmt := top 14
def d_f_whole_sums : DI := ⟨defBody s_f_whole_sums, defScope s_f_whole_sums, ["one", "other"]⟩
def D_f_whole_sums : He.DefD := ⟨("whole_sums", none), "whole_sums", "whole_sums", defArgs s_f_whole_sums, defBody s_f_whole_sums, defScope s_f_whole_sums, [], []⟩
abbrev s_f_hull_of : Stmt := top 15
def d_f_hull_of : DI := ⟨defBody s_f_hull_of, defScope s_f_hull_of, ["lot", "step", "number"]⟩
def D_f_hull_of : He.DefD := ⟨("hull_of", none), "hull_of", "hull_of", defArgs s_f_hull_of, defBody s_f_hull_of, defScope s_f_hull_of, [], []⟩
abbrev s_f_hull : Stmt := top 16
def d_f_hull : DI := ⟨defBody s_f_hull, defScope s_f_hull, ["lot"]⟩
def D_f_hull : He.DefD := ⟨("hull", none), "hull", "hull", defArgs s_f_hull, defBody s_f_hull, defScope s_f_hull, [], []⟩
abbrev s_f_sum_floor : Stmt := top 17
def d_f_sum_floor : DI := ⟨defBody s_f_sum_floor, defScope s_f_sum_floor, ["lot"]⟩
def D_f_sum_floor : He.DefD := ⟨("sum_floor", none), "sum_floor", "sum_floor", defArgs s_f_sum_floor, defBody s_f_sum_floor, defScope s_f_sum_floor, [], []⟩
abbrev s_f_bare_of : Stmt := top 18
def d_f_bare_of : DI := ⟨defBody s_f_bare_of, defScope s_f_bare_of, ["lot", "step", "number"]⟩
def D_f_bare_of : He.DefD := ⟨("bare_of", none), "bare_of", "bare_of", defArgs s_f_bare_of, defBody s_f_bare_of, defScope s_f_bare_of, [], []⟩
abbrev s_f_bare : Stmt := top 19
def d_f_bare : DI := ⟨defBody s_f_bare, defScope s_f_bare, ["lot"]⟩
def D_f_bare : He.DefD := ⟨("bare", none), "bare", "bare", defArgs s_f_bare, defBody s_f_bare, defScope s_f_bare, [], []⟩
abbrev s_f__law_pick : Stmt := top 23
def d_f__law_pick : DI := ⟨defBody s_f__law_pick, defScope s_f__law_pick, ["stream", "things"]⟩
def D_f__law_pick : He.DefD := ⟨("_law_pick", none), "_law_pick", "_law_pick", defArgs s_f__law_pick, defBody s_f__law_pick, defScope s_f__law_pick, [], []⟩
abbrev s_f__law_same : Stmt := top 24
def d_f__law_same : DI := ⟨defBody s_f__law_same, defScope s_f__law_same, ["found", "due", "mine", "theirs"]⟩
def D_f__law_same : He.DefD := ⟨("_law_same", none), "_law_same", "_law_same", defArgs s_f__law_same, defBody s_f__law_same, defScope s_f__law_same, [], []⟩
abbrev s_f__law_loose : Stmt := top 25
def d_f__law_loose : DI := ⟨defBody s_f__law_loose, defScope s_f__law_loose, ["stream", "thing", "some", "one"]⟩
def D_f__law_loose : He.DefD := ⟨("_law_loose", none), "_law_loose", "_law_loose", defArgs s_f__law_loose, defBody s_f__law_loose, defScope s_f__law_loose, [], []⟩
abbrev s_f__law_divisor : Stmt := top 27
def d_f__law_divisor : DI := ⟨defBody s_f__law_divisor, defScope s_f__law_divisor, ["one", "other"]⟩
def D_f__law_divisor : He.DefD := ⟨("_law_divisor", none), "_law_divisor", "_law_divisor", defArgs s_f__law_divisor, defBody s_f__law_divisor, defScope s_f__law_divisor, [], []⟩
abbrev s_f__law_whole : Stmt := top 28
def d_f__law_whole : DI := ⟨defBody s_f__law_whole, defScope s_f__law_whole, ["stream", "most", "reach", "begin", "wide", "many", "way", "step", "found", "at"]⟩
def D_f__law_whole : He.DefD := ⟨("_law_whole", none), "_law_whole", "_law_whole", defArgs s_f__law_whole, defBody s_f__law_whole, defScope s_f__law_whole, [], []⟩
abbrev s_f__law_whole_sums : Stmt := top 29
def d_f__law_whole_sums : DI := ⟨defBody s_f__law_whole_sums, defScope s_f__law_whole_sums, ["one", "other", "found", "number", "second"]⟩
def D_f__law_whole_sums : He.DefD := ⟨("_law_whole_sums", none), "_law_whole_sums", "_law_whole_sums", defArgs s_f__law_whole_sums, defBody s_f__law_whole_sums, defScope s_f__law_whole_sums, [], []⟩
abbrev s_f__law_hull : Stmt := top 30
def d_f__law_hull : DI := ⟨defBody s_f__law_hull, defScope s_f__law_hull, ["lot", "step", "number"]⟩
def D_f__law_hull : He.DefD := ⟨("_law_hull", none), "_law_hull", "_law_hull", defArgs s_f__law_hull, defBody s_f__law_hull, defScope s_f__law_hull, [], []⟩
abbrev s_f__law_bare : Stmt := top 31
def d_f__law_bare : DI := ⟨defBody s_f__law_bare, defScope s_f__law_bare, ["lot", "step", "number"]⟩
def D_f__law_bare : He.DefD := ⟨("_law_bare", none), "_law_bare", "_law_bare", defArgs s_f__law_bare, defBody s_f__law_bare, defScope s_f__law_bare, [], []⟩
abbrev s_f__law_two : Stmt := top 32
def d_f__law_two : DI := ⟨defBody s_f__law_two, defScope s_f__law_two, ["stream", "most", "reach", "found"]⟩
def D_f__law_two : He.DefD := ⟨("_law_two", none), "_law_two", "_law_two", defArgs s_f__law_two, defBody s_f__law_two, defScope s_f__law_two, [], []⟩
abbrev s_f__law_stream : Stmt := top 21
def d_f__law_stream : DI := ⟨defBody s_f__law_stream, defScope s_f__law_stream, ["script"]⟩
def D_f__law_stream : He.DefD := ⟨("_law_stream", none), "_law_stream", "_law_stream", defArgs s_f__law_stream, defBody s_f__law_stream, defScope s_f__law_stream, [], []⟩
abbrev s_f__law_spoilt : Stmt := top 26
def d_f__law_spoilt : DI := ⟨defBody s_f__law_spoilt, defScope s_f__law_spoilt, ["thing", "part", "key"]⟩
def D_f__law_spoilt : He.DefD := ⟨("_law_spoilt", none), "_law_spoilt", "_law_spoilt", defArgs s_f__law_spoilt, defBody s_f__law_spoilt, defScope s_f__law_spoilt, [], []⟩
abbrev s_f_law : Stmt := top 33
def d_f_law : DI := ⟨defBody s_f_law, defScope s_f_law, ["script", "stream", "turn", "lot", "found", "told", "number", "handed", "due", "many", "look", "floor"]⟩
def D_f_law : He.DefD := ⟨("law", none), "law", "law", defArgs s_f_law, defBody s_f_law, defScope s_f_law, [], []⟩
theorem g_f__law_draw : Good P e_f__law_draw d_f__law_draw := .draw rfl rfl rfl (by decide +kernel) (fun h => draw_pss h (by decide +kernel) (by decide +kernel) (by decide +kernel) (by decide +kernel) (by decide +kernel) (by decide +kernel) (by decide +kernel) (by decide +kernel) (by decide +kernel) (by decide +kernel) rfl)
theorem g_f_is_list : Good P e_f_is_list d_f_is_list := .fn (by decide +kernel)
theorem g_f_is_whole : Good P e_f_is_whole d_f_is_whole := .fn (by decide +kernel)
theorem g_f_is_rising : Good P e_f_is_rising d_f_is_rising := .fn (by decide +kernel)
theorem g_f_divisor_of : Good P e_f_divisor_of d_f_divisor_of := .fn (by decide +kernel)
theorem g_f_check_whole : Good P e_f_check_whole d_f_check_whole := .fn (by decide +kernel)
theorem g_f_check_two : Good P e_f_check_two d_f_check_two := .fn (by decide +kernel)
theorem g_f_sums_of : Good P e_f_sums_of d_f_sums_of := .fn (by decide +kernel)
theorem g_f_whole_sums : Good P e_f_whole_sums d_f_whole_sums := .fn (by decide +kernel)
theorem g_f_hull_of : Good P e_f_hull_of d_f_hull_of := .fn (by decide +kernel)
theorem g_f_hull : Good P e_f_hull d_f_hull := .fn (by decide +kernel)
theorem g_f_sum_floor : Good P e_f_sum_floor d_f_sum_floor := .fn (by decide +kernel)
theorem g_f_bare_of : Good P e_f_bare_of d_f_bare_of := .fn (by decide +kernel)
theorem g_f_bare : Good P e_f_bare d_f_bare := .fn (by decide +kernel)
theorem g_f__law_pick : Good P e_f__law_pick d_f__law_pick := .fn (by decide +kernel)
theorem g_f__law_same : Good P e_f__law_same d_f__law_same := .fn (by decide +kernel)
theorem g_f__law_loose : Good P e_f__law_loose d_f__law_loose := .fn (by decide +kernel)
theorem g_f__law_divisor : Good P e_f__law_divisor d_f__law_divisor := .fn (by decide +kernel)
theorem g_f__law_whole : Good P e_f__law_whole d_f__law_whole := .fn (by decide +kernel)
theorem g_f__law_whole_sums : Good P e_f__law_whole_sums d_f__law_whole_sums := .fn (by decide +kernel)
theorem g_f__law_hull : Good P e_f__law_hull d_f__law_hull := .fn (by decide +kernel)
theorem g_f__law_bare : Good P e_f__law_bare d_f__law_bare := .fn (by decide +kernel)
theorem g_f__law_two : Good P e_f__law_two d_f__law_two := .fn (by decide +kernel)
def fn : List He.DefD := [D_f__law_draw, D_f_is_list, D_f_is_whole, D_f_is_rising, D_f_divisor_of, D_f_check_whole, D_f_check_two, D_f_sums_of, D_f_whole_sums, D_f_hull_of, D_f_hull, D_f_sum_floor, D_f_bare_of, D_f_bare, D_f__law_pick, D_f__law_same, D_f__law_loose, D_f__law_divisor, D_f__law_whole, D_f__law_whole_sums, D_f__law_hull, D_f__law_bare, D_f__law_two, D_f__law_stream, D_f__law_spoilt, D_f_law]
def fa : List He.Fa := [.glo "_law_draw", .glo "is_list", .glo "is_whole", .glo "is_rising", .glo "divisor_of", .glo "check_whole", .glo "check_two", .glo "sums_of", .glo "whole_sums", .glo "hull_of", .glo "hull", .glo "sum_floor", .glo "bare_of", .glo "bare", .glo "_law_pick", .glo "_law_same", .glo "_law_loose", .glo "_law_divisor", .glo "_law_whole", .glo "_law_whole_sums", .glo "_law_hull", .glo "_law_bare", .glo "_law_two", .glo "_law_stream", .glo "_law_spoilt", .glo "law", .free "isinstance", .free "range", .free "zip", .free "enumerate", .free "len", .free "list", .free "tuple", .free "int", .free "abs", .free "sum", .free "min", .free "max", .free "all", .free "any", .free "bool", .free "str", .free "dict", .free "sorted", .free "repr"]
abbrev R : PySem.W.OpenRow := PySem.W.OpenLaw.row PySem.Challenge.rw_sumsround_k58_whole_main_hulls_and_fewes
abbrev hk : PySem.W.Hook := He.hookD 4 fa fn
def ob (s : PySem.W.SharedT) : He.AlD := He.obsDG 4 fa fn (HandSHeadRun.getT s)
theorem ob_eq (s : PySem.W.SharedT) : ob s = hk.obs s.abs := He.obsDG_eq (HandSHeadRun.getT_eq s)
def loose : List Str := (["is_list", "is_whole", "is_rising", "divisor_of", "RoundError", "TooFew", "BadWhole", "check_whole", "check_two", "sums_of", "whole_sums", "hull_of", "hull", "sum_floor", "bare_of", "bare", "_law_stream", "_law_draw", "_law_pick", "_law_same", "_law_loose", "_law_spoilt", "_law_divisor", "_law_whole", "_law_whole_sums", "_law_hull", "_law_bare", "_law_two"] : List Str)
theorem run (w : World) : HandSHeadRun.RunEq R (PySem.W.view R.prog [33]) hk ob 9000 loose w := by
  intro os
  kernel_rfl
section
variable {w : World} {K : PySem.W.Frag} {h : Heap} {mg : Str → Option Value}
theorem st_f__law_draw (X : K.In h) (G : h.Ns mainGlobals mg) (c : He.SaysD fa fn K) : Stat K mg e_f__law_draw d_f__law_draw := by
  obtain ⟨fd, F⟩ := c.def_ 0 (d := D_f__law_draw) rfl
  exact ⟨⟨_, fd, _, F, He.glo_ok X G (c.fact 0 (f := .glo "_law_draw") rfl), (FunD.bindsN F fun _ _ _ _ _ _ us hl => match us, hl with | [_, _], _ => rfl), all_nil⟩⟩
theorem st_f_is_list (X : K.In h) (G : h.Ns mainGlobals mg) (c : He.SaysD fa fn K) : Stat K mg e_f_is_list d_f_is_list := by
  obtain ⟨fd, F⟩ := c.def_ 1 (d := D_f_is_list) rfl
  exact ⟨⟨_, fd, _, F, He.glo_ok X G (c.fact 1 (f := .glo "is_list") rfl), (FunD.bindsN F fun _ _ _ _ _ _ us hl => match us, hl with | [_], _ => rfl), all_nil⟩⟩
theorem st_f_is_whole (X : K.In h) (G : h.Ns mainGlobals mg) (c : He.SaysD fa fn K) : Stat K mg e_f_is_whole d_f_is_whole := by
  obtain ⟨fd, F⟩ := c.def_ 2 (d := D_f_is_whole) rfl
  exact ⟨⟨_, fd, _, F, He.glo_ok X G (c.fact 2 (f := .glo "is_whole") rfl), (FunD.bindsN F fun _ _ _ _ _ _ us hl => match us, hl with | [_], _ => rfl), all_nil⟩⟩
theorem st_f_is_rising (X : K.In h) (G : h.Ns mainGlobals mg) (c : He.SaysD fa fn K) : Stat K mg e_f_is_rising d_f_is_rising := by
  obtain ⟨fd, F⟩ := c.def_ 3 (d := D_f_is_rising) rfl
  exact ⟨⟨_, fd, _, F, He.glo_ok X G (c.fact 3 (f := .glo "is_rising") rfl), (FunD.bindsN F fun _ _ _ _ _ _ us hl => match us, hl with | [_], _ => rfl), all_nil⟩⟩
theorem st_f_divisor_of (X : K.In h) (G : h.Ns mainGlobals mg) (c : He.SaysD fa fn K) : Stat K mg e_f_divisor_of d_f_divisor_of := by
  obtain ⟨fd, F⟩ := c.def_ 4 (d := D_f_divisor_of) rfl
  exact ⟨⟨_, fd, _, F, He.glo_ok X G (c.fact 4 (f := .glo "divisor_of") rfl), (FunD.bindsN F fun _ _ _ _ _ _ us hl => match us, hl with | [_, _], _ => rfl), all_nil⟩⟩
theorem st_f_check_whole (X : K.In h) (G : h.Ns mainGlobals mg) (c : He.SaysD fa fn K) : Stat K mg e_f_check_whole d_f_check_whole := by
  obtain ⟨fd, F⟩ := c.def_ 5 (d := D_f_check_whole) rfl
  exact ⟨⟨_, fd, _, F, He.glo_ok X G (c.fact 5 (f := .glo "check_whole") rfl), (FunD.bindsN F fun _ _ _ _ _ _ us hl => match us, hl with | [_], _ => rfl), all_nil⟩⟩
theorem st_f_check_two (X : K.In h) (G : h.Ns mainGlobals mg) (c : He.SaysD fa fn K) : Stat K mg e_f_check_two d_f_check_two := by
  obtain ⟨fd, F⟩ := c.def_ 6 (d := D_f_check_two) rfl
  exact ⟨⟨_, fd, _, F, He.glo_ok X G (c.fact 6 (f := .glo "check_two") rfl), (FunD.bindsN F fun _ _ _ _ _ _ us hl => match us, hl with | [_], _ => rfl), all_nil⟩⟩
theorem st_f_sums_of (X : K.In h) (G : h.Ns mainGlobals mg) (c : He.SaysD fa fn K) : Stat K mg e_f_sums_of d_f_sums_of := by
  obtain ⟨fd, F⟩ := c.def_ 7 (d := D_f_sums_of) rfl
  exact ⟨⟨_, fd, _, F, He.glo_ok X G (c.fact 7 (f := .glo "sums_of") rfl), (FunD.bindsN F fun _ _ _ _ _ _ us hl => match us, hl with | [_, _], _ => rfl), all_nil⟩⟩
theorem st_f_whole_sums (X : K.In h) (G : h.Ns mainGlobals mg) (c : He.SaysD fa fn K) : Stat K mg e_f_whole_sums d_f_whole_sums := by
  obtain ⟨fd, F⟩ := c.def_ 8 (d := D_f_whole_sums) rfl
  exact ⟨⟨_, fd, _, F, He.glo_ok X G (c.fact 8 (f := .glo "whole_sums") rfl), (FunD.bindsN F fun _ _ _ _ _ _ us hl => match us, hl with | [_, _], _ => rfl), all_nil⟩⟩
theorem st_f_hull_of (X : K.In h) (G : h.Ns mainGlobals mg) (c : He.SaysD fa fn K) : Stat K mg e_f_hull_of d_f_hull_of := by
  obtain ⟨fd, F⟩ := c.def_ 9 (d := D_f_hull_of) rfl
  exact ⟨⟨_, fd, _, F, He.glo_ok X G (c.fact 9 (f := .glo "hull_of") rfl), (FunD.bindsN F fun _ _ _ _ _ _ us hl => match us, hl with | [_], _ => rfl), all_nil⟩⟩
theorem st_f_hull (X : K.In h) (G : h.Ns mainGlobals mg) (c : He.SaysD fa fn K) : Stat K mg e_f_hull d_f_hull := by
  obtain ⟨fd, F⟩ := c.def_ 10 (d := D_f_hull) rfl
  exact ⟨⟨_, fd, _, F, He.glo_ok X G (c.fact 10 (f := .glo "hull") rfl), (FunD.bindsN F fun _ _ _ _ _ _ us hl => match us, hl with | [_], _ => rfl), (all_cons (kb_of F (by decide) fun _ _ _ _ _ _ us ws hu hw => match us, hu, ws, hw with | [], _, [_], _ => by kernel_rfl) all_nil)⟩⟩
theorem st_f_sum_floor (X : K.In h) (G : h.Ns mainGlobals mg) (c : He.SaysD fa fn K) : Stat K mg e_f_sum_floor d_f_sum_floor := by
  obtain ⟨fd, F⟩ := c.def_ 11 (d := D_f_sum_floor) rfl
  exact ⟨⟨_, fd, _, F, He.glo_ok X G (c.fact 11 (f := .glo "sum_floor") rfl), (FunD.bindsN F fun _ _ _ _ _ _ us hl => match us, hl with | [_], _ => rfl), (all_cons (kb_of F (by decide) fun _ _ _ _ _ _ us ws hu hw => match us, hu, ws, hw with | [], _, [_], _ => by kernel_rfl) all_nil)⟩⟩
theorem st_f_bare_of (X : K.In h) (G : h.Ns mainGlobals mg) (c : He.SaysD fa fn K) : Stat K mg e_f_bare_of d_f_bare_of := by
  obtain ⟨fd, F⟩ := c.def_ 12 (d := D_f_bare_of) rfl
  exact ⟨⟨_, fd, _, F, He.glo_ok X G (c.fact 12 (f := .glo "bare_of") rfl), (FunD.bindsN F fun _ _ _ _ _ _ us hl => match us, hl with | [_], _ => rfl), all_nil⟩⟩
theorem st_f_bare (X : K.In h) (G : h.Ns mainGlobals mg) (c : He.SaysD fa fn K) : Stat K mg e_f_bare d_f_bare := by
  obtain ⟨fd, F⟩ := c.def_ 13 (d := D_f_bare) rfl
  exact ⟨⟨_, fd, _, F, He.glo_ok X G (c.fact 13 (f := .glo "bare") rfl), (FunD.bindsN F fun _ _ _ _ _ _ us hl => match us, hl with | [_], _ => rfl), (all_cons (kb_of F (by decide) fun _ _ _ _ _ _ us ws hu hw => match us, hu, ws, hw with | [], _, [_], _ => by kernel_rfl) all_nil)⟩⟩
theorem st_f__law_pick (X : K.In h) (G : h.Ns mainGlobals mg) (c : He.SaysD fa fn K) : Stat K mg e_f__law_pick d_f__law_pick := by
  obtain ⟨fd, F⟩ := c.def_ 14 (d := D_f__law_pick) rfl
  exact ⟨⟨_, fd, _, F, He.glo_ok X G (c.fact 14 (f := .glo "_law_pick") rfl), (FunD.bindsN F fun _ _ _ _ _ _ us hl => match us, hl with | [_, _], _ => rfl), all_nil⟩⟩
theorem st_f__law_same (X : K.In h) (G : h.Ns mainGlobals mg) (c : He.SaysD fa fn K) : Stat K mg e_f__law_same d_f__law_same := by
  obtain ⟨fd, F⟩ := c.def_ 15 (d := D_f__law_same) rfl
  exact ⟨⟨_, fd, _, F, He.glo_ok X G (c.fact 15 (f := .glo "_law_same") rfl), (FunD.bindsN F fun _ _ _ _ _ _ us hl => match us, hl with | [_, _], _ => rfl), all_nil⟩⟩
theorem st_f__law_loose (X : K.In h) (G : h.Ns mainGlobals mg) (c : He.SaysD fa fn K) : Stat K mg e_f__law_loose d_f__law_loose := by
  obtain ⟨fd, F⟩ := c.def_ 16 (d := D_f__law_loose) rfl
  exact ⟨⟨_, fd, _, F, He.glo_ok X G (c.fact 16 (f := .glo "_law_loose") rfl), (FunD.bindsN F fun _ _ _ _ _ _ us hl => match us, hl with | [_, _], _ => rfl), all_nil⟩⟩
theorem st_f__law_divisor (X : K.In h) (G : h.Ns mainGlobals mg) (c : He.SaysD fa fn K) : Stat K mg e_f__law_divisor d_f__law_divisor := by
  obtain ⟨fd, F⟩ := c.def_ 17 (d := D_f__law_divisor) rfl
  exact ⟨⟨_, fd, _, F, He.glo_ok X G (c.fact 17 (f := .glo "_law_divisor") rfl), (FunD.bindsN F fun _ _ _ _ _ _ us hl => match us, hl with | [_, _], _ => rfl), all_nil⟩⟩
theorem st_f__law_whole (X : K.In h) (G : h.Ns mainGlobals mg) (c : He.SaysD fa fn K) : Stat K mg e_f__law_whole d_f__law_whole := by
  obtain ⟨fd, F⟩ := c.def_ 18 (d := D_f__law_whole) rfl
  exact ⟨⟨_, fd, _, F, He.glo_ok X G (c.fact 18 (f := .glo "_law_whole") rfl), (FunD.bindsN F fun _ _ _ _ _ _ us hl => match us, hl with | [_, _, _], _ => rfl), all_nil⟩⟩
theorem st_f__law_whole_sums (X : K.In h) (G : h.Ns mainGlobals mg) (c : He.SaysD fa fn K) : Stat K mg e_f__law_whole_sums d_f__law_whole_sums := by
  obtain ⟨fd, F⟩ := c.def_ 19 (d := D_f__law_whole_sums) rfl
  exact ⟨⟨_, fd, _, F, He.glo_ok X G (c.fact 19 (f := .glo "_law_whole_sums") rfl), (FunD.bindsN F fun _ _ _ _ _ _ us hl => match us, hl with | [_, _], _ => rfl), all_nil⟩⟩
theorem st_f__law_hull (X : K.In h) (G : h.Ns mainGlobals mg) (c : He.SaysD fa fn K) : Stat K mg e_f__law_hull d_f__law_hull := by
  obtain ⟨fd, F⟩ := c.def_ 20 (d := D_f__law_hull) rfl
  exact ⟨⟨_, fd, _, F, He.glo_ok X G (c.fact 20 (f := .glo "_law_hull") rfl), (FunD.bindsN F fun _ _ _ _ _ _ us hl => match us, hl with | [_], _ => rfl), all_nil⟩⟩
theorem st_f__law_bare (X : K.In h) (G : h.Ns mainGlobals mg) (c : He.SaysD fa fn K) : Stat K mg e_f__law_bare d_f__law_bare := by
  obtain ⟨fd, F⟩ := c.def_ 21 (d := D_f__law_bare) rfl
  exact ⟨⟨_, fd, _, F, He.glo_ok X G (c.fact 21 (f := .glo "_law_bare") rfl), (FunD.bindsN F fun _ _ _ _ _ _ us hl => match us, hl with | [_], _ => rfl), all_nil⟩⟩
theorem st_f__law_two (X : K.In h) (G : h.Ns mainGlobals mg) (c : He.SaysD fa fn K) : Stat K mg e_f__law_two d_f__law_two := by
  obtain ⟨fd, F⟩ := c.def_ 22 (d := D_f__law_two) rfl
  exact ⟨⟨_, fd, _, F, He.glo_ok X G (c.fact 22 (f := .glo "_law_two") rfl), (FunD.bindsN F fun _ _ _ _ _ _ us hl => match us, hl with | [_, _, _], _ => rfl), all_nil⟩⟩
theorem stat (X : K.In h) (G : h.Ns mainGlobals mg) (c : He.SaysD fa fn K) : ∀ (f : Nat) (en : Ent), P[f]? = some en → ∃ d, Stat K mg en d ∧ Good P en d
  | 0, _, rfl => ⟨d_f__law_draw, st_f__law_draw X G c, g_f__law_draw⟩
  | 1, _, rfl => ⟨d_f_is_list, st_f_is_list X G c, g_f_is_list⟩
  | 2, _, rfl => ⟨d_f_is_whole, st_f_is_whole X G c, g_f_is_whole⟩
  | 3, _, rfl => ⟨d_f_is_rising, st_f_is_rising X G c, g_f_is_rising⟩
  | 4, _, rfl => ⟨d_f_divisor_of, st_f_divisor_of X G c, g_f_divisor_of⟩
  | 5, _, rfl => ⟨d_f_check_whole, st_f_check_whole X G c, g_f_check_whole⟩
  | 6, _, rfl => ⟨d_f_check_two, st_f_check_two X G c, g_f_check_two⟩
  | 7, _, rfl => ⟨d_f_sums_of, st_f_sums_of X G c, g_f_sums_of⟩
  | 8, _, rfl => ⟨d_f_whole_sums, st_f_whole_sums X G c, g_f_whole_sums⟩
  | 9, _, rfl => ⟨d_f_hull_of, st_f_hull_of X G c, g_f_hull_of⟩
  | 10, _, rfl => ⟨d_f_hull, st_f_hull X G c, g_f_hull⟩
  | 11, _, rfl => ⟨d_f_sum_floor, st_f_sum_floor X G c, g_f_sum_floor⟩
  | 12, _, rfl => ⟨d_f_bare_of, st_f_bare_of X G c, g_f_bare_of⟩
  | 13, _, rfl => ⟨d_f_bare, st_f_bare X G c, g_f_bare⟩
  | 14, _, rfl => ⟨d_f__law_pick, st_f__law_pick X G c, g_f__law_pick⟩
  | 15, _, rfl => ⟨d_f__law_same, st_f__law_same X G c, g_f__law_same⟩
  | 16, _, rfl => ⟨d_f__law_loose, st_f__law_loose X G c, g_f__law_loose⟩
  | 17, _, rfl => ⟨d_f__law_divisor, st_f__law_divisor X G c, g_f__law_divisor⟩
  | 18, _, rfl => ⟨d_f__law_whole, st_f__law_whole X G c, g_f__law_whole⟩
  | 19, _, rfl => ⟨d_f__law_whole_sums, st_f__law_whole_sums X G c, g_f__law_whole_sums⟩
  | 20, _, rfl => ⟨d_f__law_hull, st_f__law_hull X G c, g_f__law_hull⟩
  | 21, _, rfl => ⟨d_f__law_bare, st_f__law_bare X G c, g_f__law_bare⟩
  | 22, _, rfl => ⟨d_f__law_two, st_f__law_two X G c, g_f__law_two⟩
  | _ + 23, _, e => nomatch e
theorem frees (X : K.In h) (G : h.Ns mainGlobals mg) (c : He.SaysD fa fn K) : ∀ b ∈ bNames, mg b = none :=
  (all_cons (He.free_ok X G (c.fact 26 (f := .free "isinstance") rfl)) (all_cons (He.free_ok X G (c.fact 27 (f := .free "range") rfl)) (all_cons (He.free_ok X G (c.fact 28 (f := .free "zip") rfl)) (all_cons (He.free_ok X G (c.fact 29 (f := .free "enumerate") rfl)) (all_cons (He.free_ok X G (c.fact 30 (f := .free "len") rfl)) (all_cons (He.free_ok X G (c.fact 31 (f := .free "list") rfl)) (all_cons (He.free_ok X G (c.fact 32 (f := .free "tuple") rfl)) (all_cons (He.free_ok X G (c.fact 33 (f := .free "int") rfl)) (all_cons (He.free_ok X G (c.fact 34 (f := .free "abs") rfl)) (all_cons (He.free_ok X G (c.fact 35 (f := .free "sum") rfl)) (all_cons (He.free_ok X G (c.fact 36 (f := .free "min") rfl)) (all_cons (He.free_ok X G (c.fact 37 (f := .free "max") rfl)) (all_cons (He.free_ok X G (c.fact 38 (f := .free "all") rfl)) (all_cons (He.free_ok X G (c.fact 39 (f := .free "any") rfl)) (all_cons (He.free_ok X G (c.fact 40 (f := .free "bool") rfl)) (all_cons (He.free_ok X G (c.fact 41 (f := .free "str") rfl)) (all_cons (He.free_ok X G (c.fact 42 (f := .free "dict") rfl)) (all_cons (He.free_ok X G (c.fact 43 (f := .free "sorted") rfl)) (all_cons (He.free_ok X G (c.fact 44 (f := .free "repr") rfl)) all_nil)))))))))))))))))))
theorem spo (X : K.In h) (G : h.Ns mainGlobals mg) (c : He.SaysD fa fn K) (base : Heap) : SpoilOk prog w K mg base := by
  obtain ⟨fd, F⟩ := c.def_ 24 (d := D_f__law_spoilt) rfl
  have m := He.glo_ok X G (c.fact 24 (f := .glo "_law_spoilt") rfl)
  have b : Binds K fd ["thing"] [] := (FunD.bindsN F fun _ _ _ _ _ _ us hl => match us, hl with | [_], _ => rfl)
  exact ⟨_, fd, spoil_all (d := d_f__law_spoilt) (frees X G c) rfl (by decide +kernel) F m b (fun h Fn hm hk hb => spoil_pss h (by decide +kernel) (by decide +kernel) (by decide +kernel) (by decide +kernel) (by decide +kernel) (by decide +kernel) (by decide +kernel) (by decide +kernel) rfl Fn hm hk hb) 7, m, F.kp, b⟩
theorem facts {f : Addr} (hrun : LawRunF rpT P (24 + 1) nsLaw 2 10 b_law_bd b_law) (X : K.In h) (G : h.Ns mainGlobals mg) (hfa : mg ("law" : Str) = some (.ref f)) (c : He.SaysD fa fn K) :
    ∃ fd : FuncData, (∀ (s : Shared) (v : Value), BindsTo s fd ⟨[v], []⟩ [("script", v)]) ∧ ∀ base : Heap, K.In base → base.Ns mainGlobals mg → FnG prog w K mg base (24 + 2) f fd ["script"] (spLawF K) := by
  obtain ⟨fdS, FS⟩ := c.def_ 23 (d := D_f__law_stream) rfl
  obtain ⟨fd, F⟩ := c.def_ 25 (d := D_f_law) rfl
  have e := hfa.symm.trans (He.glo_ok X G (c.fact 25 (f := .glo "law") rfl))
  cases e
  have b := FunD.bindsA (ps := ["script"]) F fun _ _ _ _ _ _ us hl => match us, hl with | [_], _ => rfl
  have bS : Binds K fdS strN [] := FunD.bindsN FS fun _ _ _ _ _ _ us hl => match us, hl with | [_], _ => rfl
  exact ⟨fd, fun s v => b s [v] rfl, fun base _ _ => law_allF (dL := d_f_law) (dS := d_f__law_stream) (sp := true) (n := 10) (tt := 2) (bd := b_law_bd) (e := b_law) (frees X G c) (stat X G c) FS (He.glo_ok X G (c.fact 23 (f := .glo "_law_stream") rfl)) bS rfl (by decide +kernel) (fun h => stream_pss h (by decide +kernel) (by decide +kernel)) (fun base _ => ⟨by decide, spo X G c base⟩) rfl (by decide) (by decide +kernel) (by decide +kernel) (by decide +kernel) (by decide +kernel) (by decide +kernel) (by decide +kernel) (by decide) (by decide +kernel) (by decide +kernel) (by decide +kernel) (by decide +kernel) (by decide +kernel) hrun F base⟩
end
end Law
open PySem PySem.W PySem.Calls PyProof.Rows
theorem PySem.Challenge.cw_sumsround_k58_whole_main_hulls_and_fewes_holds : PySem.Challenge.rw_sumsround_k58_whole_main_hulls_and_fewes.Holds := by
  w_on; o_law
  refine HandSHeadRun.head_any (r := OpenLaw.row PySem.Challenge.rw_sumsround_k58_whole_main_hulls_and_fewes) (q := view (OpenLaw.row PySem.Challenge.rw_sumsround_k58_whole_main_hulls_and_fewes).prog [33]) (H := Law.hk) (ob := Law.ob) (M := 9000) (loose := Law.loose) (d := HandSHeadRun.topDef (OpenLaw.row PySem.Challenge.rw_sumsround_k58_whole_main_hulls_and_fewes).prog 33) (kwd := []) Law.ob_eq
    (by kernel_rfl) (fun s => by kernel_rfl) Law.run (by kernel_rfl) (by kernel_rfl) (by kernel_rfl) (by rfl) (by first | assumption | decide +kernel) (by decide +kernel) ⟨rfl, rfl, rfl, rfl, rfl, by decide +kernel⟩ ?hw ?hc
  case hw => w_witness2
  case hc =>
    refine TM.walkG (l := PySem.Challenge.rw_sumsround_k58_whole_main_hulls_and_fewes) (n := 63) (k := 24 + 2) (x := "script") rfl (by decide) (by kernel_rfl) (TM.room_law (by decide)) ?F
    intro w mg fa h Y G hmg0
    obtain ⟨K, KX, c⟩ := Y
    have hmg : mg ("law" : PySem.Str) = some (.ref fa) := by
      have e : (HandSHeadRun.topDef (OpenLaw.row PySem.Challenge.rw_sumsround_k58_whole_main_hulls_and_fewes).prog 33).name = ("law" : PySem.Str) := by kernel_rfl
      rw [← e]
      exact hmg0
    obtain ⟨fd, hb, hF⟩ := Law.facts (w := w) Law.lawrun KX G hmg c
    exact ⟨K, fd, TM.spLawF K, KX, hb, fun H a ns hl _ hS => ⟨a, ns, rfl, Nat.le_trans hl (by decide), hS, fun _ => rfl⟩, hF⟩
