import PyProof.Rows.All
import Wide.All
import OpenK.AllK
import Wide.FinOn
import HandS.ForMost
import HandS.Exc
import HandS.WordsExc
import KE.KDictKeyed
import KE.KDictDisplayH
import KE.SortData
import HandS.CallSlots
import HandS.Defaults
import HandS.Walk
import HandS.HeadHook1
import HandS.Lambda
import HandS.TupAny
import HandS.TupMul
import HandS.Deep
import HandS.More
import HandS.IsInst
import HandS.Style
import HandS.Rev
import HandS.Zip
import PyProof.NeKinds
import HandS.SetFor
import PyProof.DictUpdate
import HandS.TryOnly
import HandS.HeadWalk
import HandS.Strs
import KE.GoesMore
import HandS.TupLen
import HandS.Conv
import HandS.SortInts
import HandS.TupSets
import KE.KDictSum
import HandS.Small
import HandS.ExcOwn
import KE.KStateDown
import HandS.HeadHook3
import HandS.ExcIs
import KE.KNestM
import HandS.EndTab
import Lean
import HandS.Head0
import HandS.Head1
import HandS.Head2
import HandS.HeadEnd
import HandS.Codes
import PySem.Challenge.RW_callpact_k11_saves_put_in
set_option Elab.async false
set_option linter.all false
set_option maxRecDepth 100000
set_option maxHeartbeats 4000000
/-! MiSem: a small language: values, memory, expressions, statements, what they do. -/
namespace Mi
open PySem L2

/-- data: tuples and frozen lists by what they hold; what may change is a handle -/
inductive D where
  | non | bl (b : Bool) | int (i : Int) | str (s : Str)
  | tup (xs : List D) | lst (xs : List D) | dic (kvs : List (Key × D))
  | ptr (n : Nat) | inp (ns : List Int) | gd (x : Str)
  | exn

inductive Cell where
  | lst (xs : List D) | dct (kvs : List (Key × D)) | nst (kvs : List (NestedKey × D)) | ins (C : Str) (fs : List (Str × D))

abbrev Mem := List Cell
abbrev EnvD := List (Option D)
structure Exn where
  cls : Str
  fs : List (Str × D)

inductive Res (α : Type) where
  | stuck | ok (a : α) (m : Mem) | exc (x : Exn) (m : Mem)
def Res.bind {α β : Type} : Res α → (α → Mem → Res β) → Res β
  | .stuck, _ => .stuck
  | .ok a m, k => k a m
  | .exc x m, _ => .exc x m
@[simp] theorem Res.bind_ok {α β : Type} (a : α) (m : Mem) (k : α → Mem → Res β) : (Res.ok a m).bind k = k a m := rfl
@[simp] theorem Res.bind_stuck {α β : Type} (k : α → Mem → Res β) : (Res.stuck : Res α).bind k = .stuck := rfl
@[simp] theorem Res.bind_exc {α β : Type} (x : Exn) (m : Mem) (k : α → Mem → Res β) : (Res.exc x m : Res α).bind k = .exc x m := rfl

abbrev Fn := List D → Mem → Res D
structure Gx where
  con : Str → Option D
  fn : Str → Option Fn
  ini : Str → Option Fn
  met : Str → Str → Option Fn
  dcs : Str → Option (List (Str × D))
  fld : Str → Str → Bool
  fuel : Nat
  exc : Str → Bool
  exm : Str → Str → Option Bool
  kin : Bool
  ise : Str → Option Bool

inductive CT where
  | nam (i : Nat) (x : Str) | tup (xs : List (Nat × Str))

inductive Bi where
  | len | tup | str | int | max | min
  deriving DecidableEq
inductive Me where
  | app | ext | pop | get | join | split | upd | cnt | idx | clr | rvs
  deriving DecidableEq
/-- more words with one part, with two -/
inductive X1 where
  | lenN | srl | rngL | sor | soN | srp
  deriving DecidableEq
inductive X2 where
  | inN | ninN | dispN | addM | mulM | rngL2
  deriving DecidableEq
inductive Tn where
  | non | bool | int | str | tup | lst
  deriving DecidableEq
mutual
inductive CE where
  | cst (d : D) | var (i : Nat) (x : Str) | glb (x : Str)
  | bin (o : Operator) (a b : CE) | neg (a : CE)
  | cmp (o : CmpOp) (a b : CE) | cmp2 (o o' : CmpOp) (a b c : CE)
  | bop (o : BoolOp) (es : CEs) | nott (a : CE) | ifx (t a b : CE)
  | tup (es : CEs) | lst (m : Bool) (es : CEs) | dic (m : Bool) (ps : CPs)
  | idx (a i : CE) | sli (a : CE) (lo hi : CO) | rev (a : CE)
  | call (f : Str) (es : CEs) | blt (f : Bi) (es : CEs) | lof (m : Bool) (a : CE) | srs (a : CE)
  | isi (a : CE) (one : Bool) (cs : List Tn)
  | mth (o : CE) (n : Me) (es : CEs)
  | own (o : CE) (C n : Str) (es : CEs)
  | att (o : CE) (f : Str)
  | lc (m : Bool) (elt : CE) (t : CT) (it : CI) (ifs : CEs) (ow : List (Str × Nat))
  | x1 (o : X1) (a : CE) | x2 (o : X2) (a b : CE) | newN
  | kin (b : CE) | isE (i : Nat) (n x : Str)
inductive CEs where
  | nil | cons (e : CE) (es : CEs)
inductive CPs where
  | nil | cons (k v : CE) (ps : CPs)
inductive CO where
  | no | yes (e : CE)
inductive CI where
  | rng1 (a : CE) | rng2 (a b : CE) | seq (a : CE) | zip (a b : CE) | rev (a : CE)
end

mutual
inductive CS where
  | exp (e : CE) | asg (t : CT) (e : CE) | sub (o i e : CE) | att (o : CE) (f : Str) (e : CE) | par (i j : Nat) (x y : Str) (a b : CE)
  | ret (e : CE) | retN | ite (t : CE) (a b : CSs)
  | loop (t : CT) (it : CI) (b : CSs) | whl (t : CE) (b : CSs)
  | rse (x : Str) (es : CEs)
  | tryx (b : CSs) (x : Str) (n : Option (Nat × Str)) (h : CSs)
  | pas | brk | cnt
  | setN (o i e : CE)
inductive CSs where
  | nil | cons (s : CS) (ss : CSs)
end

/-! ### plain data -/
mutual
def D.py? : D → Option PyData
  | .non => some .none
  | .bl b => some (.bool b)
  | .int i => some (.int i)
  | .str s => some (.str s)
  | .tup xs => (D.pys? xs).map .tuple
  | .lst xs => (D.pys? xs).map .list
  | _ => none
def D.pys? : List D → Option (List PyData)
  | [] => some []
  | x :: xs => match D.py? x, D.pys? xs with
    | some y, some ys => some (y :: ys)
    | _, _ => none
end
def getL (m : Mem) : D → Option (List D)
  | .lst xs => some xs
  | .ptr n => match m[n]? with
    | some (.lst xs) => some xs
    | _ => none
  | _ => none
/-- a value, a list that may change among them -/
def D.pyO (m : Mem) : D → Option PyData
  | .ptr n => match m[n]? with
    | some (.lst xs) => (D.pys? xs).map .list
    | _ => none
  | d => d.py?
def D.pyT (m : Mem) : List D → Option (List PyData)
  | [] => some []
  | x :: xs => match D.pyO m x, D.pyT m xs with
    | some y, some ys => some (y :: ys)
    | _, _ => none
def D.pyM (m : Mem) : D → Option PyData
  | .ptr n => match m[n]? with
    | some (.lst xs) => (D.pys? xs).map .list
    | _ => none
  | .tup xs => match D.pys? xs with
    | some ys => some (.tuple ys)
    | none => (D.pyT m xs).map .tuple
  | d => d.py?
def eqP (m : Mem) (a b : D) : Option Bool := match a.pyM m, b.pyM m with
  | some x, some y => if SeqAt.shaped x && SeqAt.shaped y then some (PyData.eqv x y) else none
  | _, _ => none
/-- both are lists, of two lengths -/
def lenNe (m : Mem) (a b : D) : Bool := match getL m a, getL m b with
  | some xs, some ys => decide (xs.length ≠ ys.length)
  | _, _ => false
def eqM (m : Mem) (a b : D) : Option Bool := match a, b with
  | .int i, .int j => some (decide (i = j))
  | .str i, .str j => some (decide (i = j))
  | .bl i, .bl j => some (decide (i = j))
  | .tup [], .tup ys => some ys.isEmpty
  | .tup xs, .tup [] => some xs.isEmpty
  | a, b => if lenNe m a b then some false else eqP m a b
/-- x among some -/
def anyEq (m : Mem) (x : D) (ys : List D) : Option Bool := match x.pyM m, D.pys? ys with
  | some d, some ds => if SeqAt.shaped d && SeqAt.shaped (.list ds) then some (ds.any fun z => PyData.eqv z d) else none
  | _, _ => none
def line : Nat := 1000000
def retO {α : Type} (o : Option α) (m : Mem) : Res α := match o with
  | some a => .ok a m
  | none => .stuck
def kD : D → Option Key
  | .int i => some (.inl i)
  | .str s => some (.inr s)
  | _ => none
def lookK (kvs : List (Key × D)) (k : Key) : Option D := (kvs.find? fun p => decide (p.1 = k)).map (·.2)
def hasK (kvs : List (Key × D)) (k : Key) : Bool := kvs.any fun p => decide (p.1 = k)
def putD (kvs : List (Key × D)) (k : Key) (d : D) : List (Key × D) := if hasK kvs k then kvs.map (fun p => if p.1 = k then (p.1, d) else p) else kvs ++ [(k, d)]
def getK (m : Mem) : D → Option (List (Key × D))
  | .dic kvs => some kvs
  | .ptr n => match m[n]? with
    | some (.dct kvs) => some kvs
    | _ => none
  | _ => none
def lookS (fs : List (Str × D)) (f : Str) : Option D := fs.lookup f
def putS (f : Str) (d : D) : List (Str × D) → List (Str × D)
  | [] => [(f, d)]
  | (g, e) :: r => if g = f then (g, d) :: r else (g, e) :: putS f d r

/-! ### keys that are tuples -/
mutual
def nkD : D → Option NestedKey
  | .non => some .none
  | .int i => some (.num i)
  | .str s => some (.text s)
  | .tup xs => (nksD xs).map .tup
  | _ => none
def nksD : List D → Option (List NestedKey)
  | [] => some []
  | x :: xs => match nkD x, nksD xs with
    | some k, some ks => some (k :: ks)
    | _, _ => none
end
mutual
def dNK : NestedKey → D
  | .none => .non
  | .num i => .int i
  | .text s => .str s
  | .tup ks => .tup (dNKs ks)
def dNKs : List NestedKey → List D
  | [] => []
  | k :: ks => dNK k :: dNKs ks
end
def tkD (d : D) : Option NestedKey := match d with
  | .tup xs => match nksD xs with
    | some ks => if (NestedKey.tup ks).depth ≤ 8 then some (.tup ks) else none
    | none => none
  | _ => none
def getN (m : Mem) : D → Option (List (NestedKey × D))
  | .ptr n => match m[n]? with
    | some (.nst kvs) => some kvs
    | _ => none
  | _ => none
def hasN (kvs : List (NestedKey × D)) (k : NestedKey) : Bool := kvs.any fun p => decide (p.1 = k)
def putN (kvs : List (NestedKey × D)) (k : NestedKey) (d : D) : List (NestedKey × D) := if hasN kvs k then kvs.map (fun p => if p.1 = k then (p.1, d) else p) else kvs ++ [(k, d)]

/-! ### operators -/
def mulOk (i j : Int) : Bool := decide (-(2 ^ 64) < i ∧ i < 2 ^ 64) || decide (-(2 ^ 64) < j ∧ j < 2 ^ 64)
def binD (o : Operator) (x y : D) (m : Mem) : Res D := match o, x, y with
  | .Add, .int i, .int j => .ok (.int (i + j)) m
  | .Sub, .int i, .int j => .ok (.int (i - j)) m
  | .Mult, .int i, .int j => if mulOk i j then .ok (.int (i * j)) m else .stuck
  | .FloorDiv, .int i, .int j => if 0 < j ∧ j < 1073741824 then .ok (.int (i / j)) m else .stuck
  | .Mod, .int i, .int j => if 0 < j then .ok (.int (i % j)) m else .stuck
  | .Pow, .int i, .int j => if 0 ≤ j ∧ j ≤ 1000000 ∧ i.natAbs < 2 ^ 64 then .ok (.int (i ^ j.toNat)) m else .stuck
  | .Add, .str a, .str b => if a.length + b.length ≤ line then .ok (.str (a ++ b)) m else .stuck
  | .Add, .tup a, .tup b => if a.length + b.length ≤ line then .ok (.tup (a ++ b)) m else .stuck
  | .Mult, .tup a, .int k => if a ≠ [] ∧ 1 ≤ k ∧ k ≤ 1000 ∧ a.length ≤ 1000 then .ok (.tup (List.replicate k.toNat a).flatten) m else .stuck
  | .Add, a, b => match getL m a, getL m b with
    | some xs, some ys => if xs.length + ys.length ≤ line then .ok (.lst (xs ++ ys)) m else .stuck
    | _, _ => .stuck
  | .Mult, a, .int k => match getL m a with
    | some xs => if 0 ≤ k ∧ k ≤ 1000 ∧ xs.length ≤ 1000 then .ok (.lst (List.replicate k.toNat xs).flatten) m else .stuck
    | none => .stuck
  | _, _, _ => .stuck
def inD (G : Gx) (x y : D) (m : Mem) : Option Bool := match y with
  | .tup ys => anyEq m x ys
  | .str z => match x with
    | .str c => if c.length = 1 then some (decide (c.cps.getD 0 0 ∈ z.cps.toList)) else none
    | _ => none
  | .gd n => match G.dcs n, x with
    | some kvs, .str z => some (kvs.lookup z).isSome
    | _, _ => none
  | y => match getL m y with
    | some ys => anyEq m x ys
    | none => match getK m y, kD x with
      | some kvs, some k => some (hasK kvs k)
      | _, _ => none
def cmpD (G : Gx) (o : CmpOp) (x y : D) (m : Mem) : Res D := match o with
  | .Eq => retO ((eqM m x y).map .bl) m
  | .NotEq => retO ((eqM m x y).map fun b => .bl (!b)) m
  | .In => retO ((inD G x y m).map .bl) m
  | .NotIn => retO ((inD G x y m).map fun b => .bl (!b)) m
  | .Is => match y, x with
    | .non, .non => .ok (.bl true) m
    | .non, _ => .ok (.bl false) m
    | _, _ => .stuck
  | .IsNot => match y, x with
    | .non, .non => .ok (.bl false) m
    | .non, _ => .ok (.bl true) m
    | _, _ => .stuck
  | .Lt => match x, y with
    | .int i, .int j => .ok (.bl (decide (i < j))) m
    | _, _ => .stuck
  | .LtE => match x, y with
    | .int i, .int j => .ok (.bl (decide (i ≤ j))) m
    | _, _ => .stuck
  | .Gt => match x, y with
    | .int i, .int j => .ok (.bl (decide (j < i))) m
    | _, _ => .stuck
  | .GtE => match x, y with
    | .int i, .int j => .ok (.bl (decide (j ≤ i))) m
    | _, _ => .stuck

def idxD (G : Gx) (x y : D) (m : Mem) : Res D := match x, y with
  | .tup xs, .int i => retO (atI xs i) m
  | .str z, .int i => if z.length ≤ line then retO ((atI z.cps.toList i).map fun c => .str ⟨#[c]⟩) m else .stuck
  | .gd n, .str z => match G.dcs n with
    | some kvs => retO (kvs.lookup z) m
    | none => .stuck
  | x, y => match getL m x, y with
    | some xs, .int i => retO (atI xs i) m
    | _, _ => match getK m x, kD y with
      | some kvs, some k => retO (lookK kvs k) m
      | _, _ => .stuck
def cutD (xs : List D) (lo hi : Option Int) : List D := (xs.drop (HT.sIx xs.length 0 lo)).take (HT.sIx xs.length xs.length hi - HT.sIx xs.length 0 lo)
def sliD (x : D) (lo hi : Option Int) (m : Mem) : Res D := match x with
  | .tup xs => .ok (.tup (cutD xs lo hi)) m
  | .str z => if z.length ≤ line then .ok (.str (cutS z lo hi)) m else .stuck
  | x => match getL m x with
    | some xs => .ok (.lst (cutD xs lo hi)) m
    | none => .stuck
def partD : D → Option (Option Int)
  | .int i => some (some i)
  | _ => none
def lenD (x : D) (m : Mem) : Option Nat := match x with
  | .tup xs => some xs.length
  | .str z => if z.length ≤ line then some z.length else none
  | .inp ns => some ns.length
  | x => match getL m x with
    | some xs => some xs.length
    | none => none
def bltD (f : Bi) (vs : List D) (m : Mem) : Res D := match f with
  | .len => match vs with
    | [x] => retO ((lenD x m).map fun n => .int n) m
    | _ => .stuck
  | .tup => match vs with
    | [.tup xs] => .ok (.tup xs) m
    | [x] => retO ((getL m x).map .tup) m
    | _ => .stuck
  | .str => match vs with
    | [.int i] => if i.natAbs < 2 ^ 64 then .ok (.str (toString i)) m else .stuck
    | _ => .stuck
  | .int => match vs with
    | [.bl b] => .ok (.int (if b then 1 else 0)) m
    | [.int i] => .ok (.int i) m
    | [.str z] => if z.length ≤ 640 then retO ((PySem.intText? z).map .int) m else .stuck
    | _ => .stuck
  | .max => match vs with
    | [.int i, .int j] => .ok (.int (if j > i then j else i)) m
    | _ => .stuck
  | .min => match vs with
    | [.int i, .int j] => .ok (.int (if j < i then j else i)) m
    | _ => .stuck
/-- list(x) -/
def lofD (x : D) (m : Mem) : Option (List D) := match x with
  | .tup xs => some xs
  | .inp ns => some (ns.map .int)
  | x => getL m x
/-- a new list, frozen or not -/
def newL (mu : Bool) (xs : List D) (m : Mem) : Res D := if mu then .ok (.ptr m.length) (m ++ [.lst xs]) else .ok (.lst xs) m
def newK (mu : Bool) (kvs : List (Key × D)) (m : Mem) : Res D := if mu then .ok (.ptr m.length) (m ++ [.dct kvs]) else .ok (.dic kvs) m
def keysD : List D → List D → Option (List (Key × D))
  | [], [] => some []
  | k :: ks, v :: vs => match kD k, keysD ks vs with
    | some k, some r => some ((k, v) :: r)
    | _, _ => none
  | _, _ => none
def insI (i : Int) : List Int → List Int
  | [] => [i]
  | j :: r => if i < j then i :: j :: r else if i = j then j :: r else j :: insI i r
def sortSet (ns : List Int) : List Int := ns.foldr insI []
def intsD : List D → Option (List Int)
  | [] => some []
  | .int i :: r => (intsD r).map (i :: ·)
  | _ => none
/-- sorted(set(x)) of whole numbers -/
def srsD (x : D) (m : Mem) : Res D := match (match x with | .tup xs => some xs | _ => none) with
  | some xs => match intsD xs with
    | some ns => if ns.length ≤ 60 then .ok (.lst ((sortSet ns).map .int)) m else .stuck
    | none => .stuck
  | none => .stuck
/-- sorted(set(x)) of a list of whole numbers -/
def srlD (x : D) (m : Mem) : Res D := match getL m x with
  | some xs => match intsD xs with
    | some ns => if ns.length ≤ 60 then .ok (.lst ((sortSet ns).map .int)) m else .stuck
    | none => .stuck
  | none => .stuck
/-- sorted(x) of a list of plain values -/
def pyG (d : D) : PyData := (d.py?).getD .none
def srtD (xs : List D) : List D := xs.mergeSort (PySem.W.dataLe false pyG)
def tupB1 : PyData → Bool
  | .tuple (_ :: _) => true
  | _ => false
def othB1 : PyData → Bool
  | .tuple _ => false
  | .none => false
  | _ => true
def sortOk (xs : List D) : Bool := match D.pys? xs with
  | some ps => (ps.all fun p => ps.all fun q => PySem.W.alike p q) && (ps.all tupB1 || ps.all othB1) && (ps.all fun p => decide (p.depth ≤ 50)) && decide (ps.length ≤ line)
  | none => false
def sorD (x : D) (m : Mem) : Res D := match getL m x with
  | some xs => if sortOk xs then .ok (.lst (srtD xs)) m else .stuck
  | none => .stuck
/-- sorted(x), x a dict whose keys are tuples -/
def soND (x : D) (m : Mem) : Res D := match getN m x with
  | some kvs => if sortOk (kvs.map fun p => dNK p.1) then newL true (srtD (kvs.map fun p => dNK p.1)) m else .stuck
  | none => .stuck
/-- pairs of whole numbers -/
def pairsD : List D → Option (List (Int × Int))
  | [] => some []
  | .tup [.int i, .int j] :: r => (pairsD r).map ((i, j) :: ·)
  | _ => none
def pairD (p : Int × Int) : D := .tup [.int p.1, .int p.2]
def ltP2 (p q : Int × Int) : Bool := decide (p.1 < q.1 ∨ (p.1 = q.1 ∧ p.2 < q.2))
def insP (i : Int × Int) : List (Int × Int) → List (Int × Int)
  | [] => [i]
  | j :: r => if ltP2 i j then i :: j :: r else if i = j then j :: r else j :: insP i r
def sortSetP (ps : List (Int × Int)) : List (Int × Int) := ps.foldr insP []
/-- sorted(set(x)), x a list of pairs of whole numbers -/
def srpD (x : D) (m : Mem) : Res D := match getL m x with
  | some xs => match pairsD xs with
    | some ps => if ps.length ≤ 60 then .ok (.lst ((sortSetP ps).map pairD)) m else .stuck
    | none => .stuck
  | none => .stuck
/-- list(range(i, j)) -/
def rngLD (i j : Int) (m : Mem) : Res D := if -(2 ^ 62) ≤ i ∧ i < 2 ^ 62 ∧ -(2 ^ 62) ≤ j ∧ j < 2 ^ 62 ∧ (j - i).toNat ≤ line then newL true ((List.range (j - i).toNat).map fun k => .int (i + (k : Nat))) m else .stuck
def x1D (o : X1) (x : D) (m : Mem) : Res D := match o with
  | .lenN => match getN m x with
    | some kvs => .ok (.int kvs.length) m
    | none => .stuck
  | .srl => srlD x m
  | .sor => sorD x m
  | .soN => soND x m
  | .srp => srpD x m
  | .rngL => match x with
    | .int j => rngLD 0 j m
    | _ => .stuck
def x2D (o : X2) (x y : D) (m : Mem) : Res D := match o with
  | .inN => match getN m y, tkD x with
    | some kvs, some k => .ok (.bl (hasN kvs k)) m
    | _, _ => .stuck
  | .ninN => match getN m y, tkD x with
    | some kvs, some k => .ok (.bl (!hasN kvs k)) m
    | _, _ => .stuck
  | .dispN => match tkD x with
    | some k => .ok (.ptr m.length) (m ++ [.nst [(k, y)]])
    | none => .stuck
  | .addM => match getL m x, getL m y with
    | some xs, some ys => if xs.length + ys.length ≤ line then newL true (xs ++ ys) m else .stuck
    | _, _ => .stuck
  | .mulM => match getL m x, y with
    | some xs, .int k => if 0 ≤ k ∧ k ≤ 1000 ∧ xs.length ≤ 1000 then newL true (List.replicate k.toNat xs).flatten m else .stuck
    | _, _ => .stuck
  | .rngL2 => match x, y with
    | .int i, .int j => rngLD i j m
    | _, _ => .stuck
/-- the class of a value -/
def tyD (m : Mem) : D → Option Tn
  | .non => some .non
  | .bl _ => some .bool
  | .int _ => some .int
  | .str _ => some .str
  | .tup _ => some .tup
  | .lst _ => some .lst
  | .ptr n => match m[n]? with
    | some (.lst _) => some .lst
    | _ => none
  | _ => none
def isaD : Tn → Tn → Bool
  | .bool, .int => true
  | t, c => decide (t = c)
def isiD (x : D) (cs : List Tn) (m : Mem) : Res D := match tyD m x with
  | some t => .ok (.bl (cs.any (isaD t))) m
  | none => .stuck
def strsD : List D → Option (List Str)
  | [] => some []
  | .str i :: r => (strsD r).map (i :: ·)
  | _ => none
def joinLen (a : Str) (ys : List Str) : Nat := (ys.map (·.length)).sum + ys.length * a.length
/-- the kind that a method is of -/
def isLstP (o : D) (m : Mem) : Bool := match o with
  | .ptr p => match m[p]? with
    | some (.lst _) => true
    | _ => false
  | _ => false
def kindOk (n : Me) (o : D) (m : Mem) : Bool := match n with
  | .app => isLstP o m
  | .ext => isLstP o m
  | .pop => isLstP o m
  | .get => (getK m o).isSome
  | .join => (match o with | .str _ => true | _ => false)
  | .split => (match o with | .str _ => true | _ => false)
  | .upd => (match o with | .ptr p => (match m[p]? with | some (.dct _) => true | _ => false) | _ => false)
  | .cnt => (getL m o).isSome
  | .idx => (getL m o).isSome
  | .clr => isLstP o m
  | .rvs => isLstP o m
def blsD : List D → Option (List Bool)
  | [] => some []
  | .bl b :: r => (blsD r).map (b :: ·)
  | _ => none
/-- a built-in's method -/
def mthD (o : D) (n : Me) (vs : List D) (m : Mem) : Res D := match n with
  | .app => match o, vs with
    | .ptr p, [d] => match m[p]? with
      | some (.lst xs) => if xs.length < line then .ok .non (m.set p (.lst (xs ++ [d]))) else .stuck
      | _ => .stuck
    | _, _ => .stuck
  | .ext => match o, vs with
    | .ptr p, [d] => match m[p]?, getL m d with
      | some (.lst xs), some ys => if xs.length + ys.length ≤ line then .ok .non (m.set p (.lst (xs ++ ys))) else .stuck
      | _, _ => .stuck
    | _, _ => .stuck
  | .pop => match o, vs with
    | .ptr p, [] => match m[p]? with
      | some (.lst xs) => match xs[xs.length - 1]? with
        | some d => .ok d (m.set p (.lst xs.dropLast))
        | none => .stuck
      | _ => .stuck
    | .ptr p, [.int i] => match m[p]? with
      | some (.lst xs) => match ixN xs.length i with
        | some k => match xs[k]? with
          | some d => if xs.length < line then .ok d (m.set p (.lst (xs.eraseIdx k))) else .stuck
          | none => .stuck
        | none => .stuck
      | _ => .stuck
    | _, _ => .stuck
  | .get => match vs with
    | [k, d] => match getK m o, kD k with
      | some kvs, some k => .ok ((lookK kvs k).getD d) m
      | _, _ => .stuck
    | _ => .stuck
  | .join => match o, vs with
    | .str a, [x] => match (match x with | .tup ys => strsD ys | x => (getL m x).bind strsD) with
      | some ys => if joinLen a ys ≤ line then .ok (.str (Txt.join a ys)) m else .stuck
      | none => .stuck
    | _, _ => .stuck
  | .split => match o, vs with
    | .str a, [.str b] => if b.length = 1 ∧ a.length < line then .ok (.lst ((Txt.split a b).map .str)) m else .stuck
    | _, _ => .stuck
  | .upd => match o, vs with
    | .ptr p, [x] => match m[p]?, x with
      | some (.dct kvs), .dic more => if kvs.length + more.length < line then .ok .non (m.set p (.dct (more.foldl (fun a q => putD a q.1 q.2) kvs))) else .stuck
      | _, _ => .stuck
    | _, _ => .stuck
  | .cnt => match vs with
    | [.bl b] => match (getL m o).bind blsD with
      | some bs => .ok (.int (bs.countP (fun z => z == b) : Nat)) m
      | none => .stuck
    | _ => .stuck
  | .idx => match vs with
    | [.bl b] => match (getL m o).bind blsD with
      | some bs => match bs.findIdx? (fun z => z == b) with
        | some j => .ok (.int (j : Nat)) m
        | none => .stuck
      | none => .stuck
    | _ => .stuck
  | .clr => match o, vs with
    | .ptr p, [] => match m[p]? with
      | some (.lst _) => .ok .non (m.set p (.lst []))
      | _ => .stuck
    | _, _ => .stuck
  | .rvs => match o, vs with
    | .ptr p, [] => match m[p]? with
      | some (.lst xs) => .ok .non (m.set p (.lst xs.reverse))
      | _ => .stuck
    | _, _ => .stuck
def setItemN (o i d : D) (m : Mem) : Option Mem := match o with
  | .ptr p => match m[p]?, tkD i with
    | some (.nst kvs), some k => if kvs.length < line then some (m.set p (.nst (putN kvs k d))) else none
    | _, _ => none
  | _ => none
def setItemD (o i d : D) (m : Mem) : Option Mem := match o with
  | .ptr p => match m[p]?, i with
    | some (.lst xs), .int k => (ixN xs.length k).map fun j => m.set p (.lst (xs.set j d))
    | some (.dct kvs), i => match kD i with
      | some k => if kvs.length < line then some (m.set p (.dct (putD kvs k d))) else none
      | none => none
    | _, _ => none
  | _ => none
def setAttD (G : Gx) (o : D) (f : Str) (d : D) (m : Mem) : Option Mem := match o with
  | .ptr p => match m[p]? with
    | some (.ins C fs) => if G.fld C f = true ∧ fs.length < 1000 then some (m.set p (.ins C (putS f d fs))) else none
    | _ => none
  | _ => none
def attD (G : Gx) (o : D) (f : Str) (m : Mem) : Res D := match o with
  | .ptr p => match m[p]? with
    | some (.ins C fs) => if G.fld C f = true then retO (lookS fs f) m else .stuck
    | _ => .stuck
  | _ => .stuck

/-! ### targets, loops -/
def bindAll : List (Nat × Str) → List D → EnvD → Option EnvD
  | [], [], e => some e
  | (i, _) :: r, d :: ds, e => bindAll r ds (e.set i (some d))
  | _, _, _ => none
def bindT (t : CT) (d : D) (m : Mem) (e : EnvD) : Option EnvD := match t with
  | .nam i _ => some (e.set i (some d))
  | .tup xs => match d with
    | .tup ds => bindAll xs ds e
    | d => match getL m d with
      | some ds => bindAll xs ds e
      | none => none
/-- what is walked: known items; a list that may change -/
inductive Itd where
  | fix (xs : List D) | liv (n : Nat)
inductive Out where
  | stuck | nxt (e : EnvD) (m : Mem) | ret (d : D) (m : Mem) | brk (e : EnvD) (m : Mem) | cnt (e : EnvD) (m : Mem) | exc (x : Exn) (e : EnvD) (m : Mem)
/-- behind a turn -/
def Out.turn (k : EnvD → Mem → Out) : Out → Out
  | .nxt e m => k e m
  | .cnt e m => k e m
  | .brk e m => .nxt e m
  | o => o
def forFix (body : D → EnvD → Mem → Out) : List D → EnvD → Mem → Out
  | [], e, m => .nxt e m
  | x :: xs, e, m => (body x e m).turn (forFix body xs)
def forLiv (body : D → EnvD → Mem → Out) (n : Nat) : Nat → Nat → EnvD → Mem → Out
  | k, i, e, m => match m[n]? with
    | some (.lst ys) => match ys[i]? with
      | none => .nxt e m
      | some y => match k with
        | 0 => .stuck
        | k + 1 => (body y e m).turn (forLiv body n k (i + 1))
    | _ => .stuck
def forIt (body : D → EnvD → Mem → Out) : Itd → EnvD → Mem → Out
  | .fix xs, e, m => forFix body xs e m
  | .liv n, e, m => forLiv body n line 0 e m
def whileD (t : EnvD → Mem → Res Bool) (body : EnvD → Mem → Out) : Nat → EnvD → Mem → Out
  | 0, _, _ => .stuck
  | k + 1, e, m => match t e m with
    | .ok true m => (body e m).turn (whileD t body k)
    | .ok false m => .nxt e m
    | .exc x m => .exc x e m
    | .stuck => .stuck
/-- a comprehension's turns: the items, what is made so far -/
def lcFix (body : D → Mem → Res (Option D)) : List D → List D → Mem → Res (List D)
  | [], acc, m => .ok acc m
  | x :: xs, acc, m => (body x m).bind fun o m => match o with
    | some d => if acc.length < line then lcFix body xs (acc ++ [d]) m else .stuck
    | none => lcFix body xs acc m
def lcLiv (body : D → Mem → Res (Option D)) (n : Nat) : Nat → Nat → List D → Mem → Res (List D)
  | k, i, acc, m => match m[n]? with
    | some (.lst ys) => match ys[i]? with
      | none => .ok acc m
      | some y => match k with
        | 0 => .stuck
        | k + 1 => (body y m).bind fun o m => match o with
          | some d => if acc.length < line then lcLiv body n k (i + 1) (acc ++ [d]) m else .stuck
          | none => lcLiv body n k (i + 1) acc m
    | _ => .stuck
def lcIt (body : D → Mem → Res (Option D)) : Itd → Mem → Res (List D)
  | .fix xs, m => lcFix body xs [] m
  | .liv n, m => lcLiv body n line 0 [] m
def wipeE (e : EnvD) : List Nat → EnvD
  | [] => e
  | v :: vs => (wipeE e vs).set v none
/-- nothing is let out of a comprehension -/
def Res.noExc {α : Type} : Res α → Res α
  | .exc _ _ => .stuck
  | r => r
def zipD : List D → List D → List D
  | x :: xs, y :: ys => .tup [x, y] :: zipD xs ys
  | _, _ => []
def signsD (z : Str) : List D := z.cps.toList.map fun c => .str ⟨#[c]⟩
def seqD (x : D) : Option (List D) := match x with
  | .tup xs => some xs
  | .lst xs => some xs
  | .str z => some (signsD z)
  | _ => none
def itSeq (x : D) (m : Mem) : Option Itd := match x with
  | .tup xs => some (.fix xs)
  | .lst xs => some (.fix xs)
  | .inp ns => some (.fix (ns.map .int))
  | .str z => some (.fix (signsD z))
  | .ptr n => match m[n]? with
    | some (.lst _) => some (.liv n)
    | _ => none
  | _ => none
def rngD (i j : Int) : Option (List D) := if -(2 ^ 62) ≤ i ∧ i < 2 ^ 62 ∧ -(2 ^ 62) ≤ j ∧ j < 2 ^ 62 then some ((List.range (j - i).toNat).map fun k => .int (i + (k : Nat))) else none
def makeD (C : Str) (g : Fn) (vs : List D) (m : Mem) : Res D := (g (.ptr m.length :: vs) (m ++ [.ins C []])).bind fun d m' => match d with
  | .non => .ok (.ptr m.length) m'
  | _ => .stuck
def blD : D → Option Bool
  | .bl b => some b
  | _ => none
def asB (r : Res D) : Res Bool := r.bind fun d m => retO (blD d) m

/-! ### what is forgotten -/
mutual
def D.und (n : Nat) : D → Bool
  | .ptr k => decide (k < n)
  | .tup xs => D.undL n xs
  | .lst xs => D.undL n xs
  | .dic kvs => D.undK n kvs
  | _ => true
def D.undL (n : Nat) : List D → Bool
  | [] => true
  | x :: xs => D.und n x && D.undL n xs
def D.undK (n : Nat) : List (Key × D) → Bool
  | [] => true
  | (_, x) :: xs => D.und n x && D.undK n xs
end
def Cell.und (n : Nat) : Cell → Bool
  | .lst xs => D.undL n xs
  | .dct kvs => D.undK n kvs
  | .nst kvs => D.undL n (kvs.map (·.2))
  | .ins _ fs => D.undL n (fs.map (·.2))
/-- what a def's own cells were is forgotten, where nothing that stays names them -/
def settle (n : Nat) (d : D) (m : Mem) : Res D :=
  if m.length = n then .ok d m
  else if d.und n && (m.take n).all (Cell.und n) then .ok d (m.take n) else .ok d m
/-- what `_law_kind` tells of a refusal without values -/
def kinWords : List Str := ["BadNumber", "TooMany", "NotLet", "BadStates", "BadGiven", "BadFuel", "BadNoise", "BadSaves"]
def kinD (n : Nat) (r : Res D) : Res D := match r with
  | .ok _ m => settle n (.str "") m
  | .exc x m => match x.fs with
    | [] => if x.cls ∈ kinWords then settle n (.str x.cls) m else .stuck
    | _ => .stuck
  | .stuck => .stuck
section
variable (G : Gx)
mutual
def evalE : CE → EnvD → Mem → Res D
  | .cst d, _, m => .ok d m
  | .var i _, e, m => match e[i]? with
    | some (some d) => .ok d m
    | _ => .stuck
  | .glb x, _, m => retO (G.con x) m
  | .bin o a b, e, m => (evalE a e m).bind fun x m => (evalE b e m).bind fun y m => binD o x y m
  | .neg a, e, m => (evalE a e m).bind fun x m => match x with
    | .int i => .ok (.int (-i)) m
    | _ => .stuck
  | .cmp o a b, e, m => (evalE a e m).bind fun x m => (evalE b e m).bind fun y m => cmpD G o x y m
  | .cmp2 o o' a b c, e, m => (evalE a e m).bind fun x m => (evalE b e m).bind fun y m => (asB (cmpD G o x y m)).bind fun k m =>
      if k then (evalE c e m).bind fun z m => cmpD G o' y z m else .ok (.bl false) m
  | .bop .And es, e, m => (evalAnd es e m).bind fun b m => .ok (.bl b) m
  | .bop .Or es, e, m => (evalOr es e m).bind fun b m => .ok (.bl b) m
  | .nott a, e, m => (asB (evalE a e m)).bind fun b m => .ok (.bl (!b)) m
  | .ifx t a b, e, m => (asB (evalE t e m)).bind fun k m => if k then evalE a e m else evalE b e m
  | .tup es, e, m => (evalL es e m).bind fun vs m => if vs.length ≤ line then .ok (.tup vs) m else .stuck
  | .lst mu es, e, m => (evalL es e m).bind fun vs m => if vs.length ≤ line then newL mu vs m else .stuck
  | .dic mu ps, e, m => (evalP ps e m).bind fun ps m => if ps.length ≤ 15 then newK mu (ps.foldl (fun a p => putD a p.1 p.2) []) m else .stuck
  | .idx a i, e, m => (evalE a e m).bind fun x m => (evalE i e m).bind fun y m => idxD G x y m
  | .sli a lo hi, e, m => (evalE a e m).bind fun x m => (evalO lo e m).bind fun l m => (evalO hi e m).bind fun h m => sliD x l h m
  | .rev a, e, m => (evalE a e m).bind fun x m => match getL m x with
    | some xs => .ok (.lst xs.reverse) m
    | none => .stuck
  | .call f es, e, m => match G.ini f with
    | some g => (evalL es e m).bind fun vs m => makeD f g vs m
    | none => match G.fn f with
      | some g => (evalL es e m).bind fun vs m => g vs m
      | none => .stuck
  | .blt f es, e, m => (evalL es e m).bind fun vs m => bltD f vs m
  | .lof mu a, e, m => (evalE a e m).bind fun x m => match lofD x m with
    | some xs => newL mu xs m
    | none => .stuck
  | .srs a, e, m => (evalE a e m).bind fun x m => srsD x m
  | .isi a _ cs, e, m => (evalE a e m).bind fun x m => isiD x cs m
  | .mth o n es, e, m => (evalE o e m).bind fun x m => if kindOk n x m then (evalL es e m).bind fun vs m => mthD x n vs m else .stuck
  | .own o C n es, e, m => match G.met C n with
    | some g => (evalE o e m).bind fun x m => match x with
      | .ptr p => match m[p]? with
        | some (.ins C' fs) => if C' = C ∧ lookS fs n = none then (evalL es e m).bind fun vs m => g (.ptr p :: vs) m else .stuck
        | _ => .stuck
      | _ => .stuck
    | none => .stuck
  | .att o f, e, m => (evalE o e m).bind fun x m => attD G x f m
  | .lc mu elt t it ifs ow, e, m => (evalI it e m).bind fun J m => (lcIt (fun d m => match bindT t d m (wipeE e (ow.map (·.2))) with
      | some e' => (evalAnd ifs e' m).noExc.bind fun b m => if b then (evalE elt e' m).noExc.bind fun d m => .ok (some d) m else .ok none m
      | none => .stuck) J m).bind fun xs m => newL mu xs m
  | .x1 o a, e, m => (evalE a e m).bind fun x m => x1D o x m
  | .x2 o a b, e, m => (evalE a e m).bind fun x m => (evalE b e m).bind fun y m => x2D o x y m
  | .newN, _, m => .ok (.ptr m.length) (m ++ [.nst []])
  | .isE i _ x, e, m => match e[i]? with
    | some (some .exn) => retO ((G.ise x).map .bl) m
    | _ => .stuck
  | .kin b, e, m => if G.kin = true then kinD m.length (evalE b e m) else .stuck
def evalL : CEs → EnvD → Mem → Res (List D)
  | .nil, _, m => .ok [] m
  | .cons a es, e, m => (evalE a e m).bind fun x m => (evalL es e m).bind fun vs m => .ok (x :: vs) m
def evalP : CPs → EnvD → Mem → Res (List (Key × D))
  | .nil, _, m => .ok [] m
  | .cons k v ps, e, m => (evalE k e m).bind fun x m => (evalE v e m).bind fun y m => match kD x with
    | some k => (evalP ps e m).bind fun r m => .ok ((k, y) :: r) m
    | none => .stuck
def evalO : CO → EnvD → Mem → Res (Option Int)
  | .no, _, m => .ok none m
  | .yes a, e, m => (evalE a e m).bind fun x m => retO (partD x) m
def evalAnd : CEs → EnvD → Mem → Res Bool
  | .nil, _, m => .ok true m
  | .cons a es, e, m => (asB (evalE a e m)).bind fun b m => if b then evalAnd es e m else .ok false m
def evalOr : CEs → EnvD → Mem → Res Bool
  | .nil, _, m => .ok false m
  | .cons a es, e, m => (asB (evalE a e m)).bind fun b m => if b then .ok true m else evalOr es e m
def evalI : CI → EnvD → Mem → Res Itd
  | .rng1 a, e, m => (evalE a e m).bind fun x m => match x with
    | .int j => retO ((rngD 0 j).map .fix) m
    | _ => .stuck
  | .rng2 a b, e, m => (evalE a e m).bind fun x m => (evalE b e m).bind fun y m => match x, y with
    | .int i, .int j => retO ((rngD i j).map .fix) m
    | _, _ => .stuck
  | .seq a, e, m => (evalE a e m).bind fun x m => retO (itSeq x m) m
  | .zip a b, e, m => (evalE a e m).bind fun x m => (evalE b e m).bind fun y m => match seqD x, seqD y with
    | some xs, some ys => .ok (.fix (zipD xs ys)) m
    | _, _ => .stuck
  | .rev a, e, m => (evalE a e m).bind fun x m => match x with
    | .tup xs => .ok (.fix xs.reverse) m
    | .lst xs => .ok (.fix xs.reverse) m
    | _ => .stuck
end
def Res.out {α : Type} (r : Res α) (e : EnvD) (k : α → Mem → Out) : Out := match r with
  | .stuck => .stuck
  | .ok a m => k a m
  | .exc x m => .exc x e m
def Out.noExc : Out → Out
  | .exc _ _ _ => .stuck
  | o => o
def nxtO (o : Option EnvD) (m : Mem) : Out := match o with
  | some e => .nxt e m
  | none => .stuck
mutual
def execS : CS → EnvD → Mem → Out
  | .exp a, e, m => (evalE G a e m).out e fun _ m => .nxt e m
  | .asg t a, e, m => (evalE G a e m).out e fun x m => nxtO (bindT t x m e) m
  | .sub o i a, e, m => (evalE G a e m).out e fun d m => (evalE G o e m).out e fun x m => (evalE G i e m).out e fun y m => match setItemD x y d m with
    | some m => .nxt e m
    | none => .stuck
  | .att o f a, e, m => (evalE G a e m).out e fun d m => (evalE G o e m).out e fun x m => match setAttD G x f d m with
    | some m => .nxt e m
    | none => .stuck
  | .par i j _ _ a b, e, m => (evalE G a e m).out e fun x m => (evalE G b e m).out e fun y m => .nxt ((e.set i (some x)).set j (some y)) m
  | .ret a, e, m => (evalE G a e m).out e fun x m => .ret x m
  | .retN, _, m => .ret .non m
  | .ite t a b, e, m => (asB (evalE G t e m)).out e fun k m => if k then execL a e m else execL b e m
  | .loop t it b, e, m => (evalI G it e m).out e fun J m => forIt (fun d e m => match bindT t d m e with
      | some e => execL b e m
      | none => .stuck) J e m
  | .whl t b, e, m => whileD (fun e m => asB (evalE G t e m)) (fun e m => execL b e m) G.fuel e m
  | .rse x _, e, m => if x ≠ "" ∧ G.exc x = true then .exc ⟨x, []⟩ e m else .stuck
  | .tryx b x none h, e, m => match execL b e m with
    | .exc y e' m' => match G.exm y.cls x with
      | some true => (execL h e' m').noExc
      | some false => .exc y e' m'
      | none => .stuck
    | o => o
  | .tryx _ _ (some _) _, _, _ => .stuck
  | .pas, e, m => .nxt e m
  | .brk, e, m => .brk e m
  | .cnt, e, m => .cnt e m
  | .setN o i a, e, m => (evalE G a e m).out e fun d m => (evalE G o e m).out e fun x m => (evalE G i e m).out e fun y m => match setItemN x y d m with
    | some m => .nxt e m
    | none => .stuck
def execL : CSs → EnvD → Mem → Out
  | .nil, e, m => .nxt e m
  | .cons s ss, e, m => match execS s e m with
    | .nxt e m => execL ss e m
    | o => o
end
def runDef (b : CSs) (ar slots : Nat) : Fn := fun vs m => if vs.length = ar then (match execL G b (vs.map some ++ List.replicate (slots - vs.length) none) m with
  | .nxt _ m' => settle m.length .non m'
  | .ret d m' => settle m.length d m'
  | .exc x _ m' => .exc x m'
  | _ => .stuck) else .stuck
end
end Mi

set_option Elab.async false
set_option linter.all false
set_option maxRecDepth 100000
set_option maxHeartbeats 4000000
/-! MiS: plain facts of the small language. -/
namespace Mi
open PySem L2
theorem lcLiv_eq (body : D → Mem → Res (Option D)) (n k i : Nat) (acc : List D) (m : Mem) : lcLiv body n k i acc m = match m[n]? with
    | some (.lst ys) => match ys[i]? with
      | none => .ok acc m
      | some y => match k with
        | 0 => .stuck
        | k + 1 => (body y m).bind fun o m => match o with
          | some d => if acc.length < line then lcLiv body n k (i + 1) (acc ++ [d]) m else .stuck
          | none => lcLiv body n k (i + 1) acc m
    | _ => .stuck := by
  cases k <;> rw [lcLiv] <;> rfl
/-! ### two ways of sorting -/
theorem insI_mem (i : Int) : ∀ (l : List Int) (k : Int), k ∈ insI i l ↔ k = i ∨ k ∈ l
  | [], k => by simp [insI]
  | j :: r, k => by
    unfold insI
    split
    · simp
    · split
      · rename_i h; subst h; simp
      · rw [List.mem_cons, insI_mem i r k, List.mem_cons]
        constructor <;> (intro h; rcases h with h | h | h <;> simp [h])
theorem insI_sorted (i : Int) : ∀ (l : List Int), l.Pairwise (· < ·) → (insI i l).Pairwise (· < ·)
  | [], _ => by simp [insI]
  | j :: r, h => by
    obtain ⟨h1, h2⟩ := List.pairwise_cons.mp h
    unfold insI
    split
    · rename_i q
      exact List.pairwise_cons.mpr ⟨fun y hy => (List.mem_cons.mp hy).elim (fun e => by rw [e]; exact q) fun e => Int.lt_trans q (h1 y e), h⟩
    · split
      · exact h
      · rename_i q1 q2
        refine List.pairwise_cons.mpr ⟨fun y hy => ?_, insI_sorted i r h2⟩
        rcases (insI_mem i r y).mp hy with e | e
        · omega
        · exact h1 y e
theorem sortSet_mem : ∀ (l : List Int) (k : Int), k ∈ sortSet l ↔ k ∈ l
  | [], k => by simp [sortSet]
  | i :: l, k => by
    show k ∈ insI i (sortSet l) ↔ _
    rw [insI_mem, sortSet_mem l k, List.mem_cons]
theorem sortSet_sorted : ∀ l : List Int, (sortSet l).Pairwise (· < ·)
  | [] => .nil
  | i :: l => insI_sorted i _ (sortSet_sorted l)
theorem sorted_eq : ∀ {l l' : List Int}, l.Pairwise (· < ·) → l'.Pairwise (· < ·) → (∀ k, k ∈ l ↔ k ∈ l') → l = l'
  | [], [], _, _, _ => rfl
  | [], j :: r, _, _, h => by have := (h j).mpr List.mem_cons_self; cases this
  | i :: l, [], _, _, h => by have := (h i).mp List.mem_cons_self; cases this
  | i :: l, j :: r, h1, h2, h => by
    obtain ⟨a1, a2⟩ := List.pairwise_cons.mp h1
    obtain ⟨b1, b2⟩ := List.pairwise_cons.mp h2
    have e : i = j := by
      have m1 := (h i).mp List.mem_cons_self
      have m2 := (h j).mpr List.mem_cons_self
      rcases List.mem_cons.mp m1 with e | e
      · exact e
      · rcases List.mem_cons.mp m2 with e2 | e2
        · exact e2.symm
        · have := b1 _ e; have := a1 _ e2; omega
    subst e
    rw [sorted_eq a2 b2 fun k => ?_]
    constructor
    · intro hk
      rcases List.mem_cons.mp ((h k).mp (List.mem_cons_of_mem _ hk)) with e | e
      · have := a1 _ hk; omega
      · exact e
    · intro hk
      rcases List.mem_cons.mp ((h k).mpr (List.mem_cons_of_mem _ hk)) with e | e
      · have := b1 _ hk; omega
      · exact e
theorem forLiv_eq (body : D → EnvD → Mem → Out) (n k i : Nat) (e : EnvD) (m : Mem) : forLiv body n k i e m = match m[n]? with
    | some (.lst ys) => match ys[i]? with
      | none => .nxt e m
      | some y => match k with
        | 0 => .stuck
        | k + 1 => (body y e m).turn (forLiv body n k (i + 1))
    | _ => .stuck := by
  cases k <;> rw [forLiv] <;> rfl
end Mi

set_option Elab.async false
set_option linter.all false
set_option maxRecDepth 100000
set_option maxHeartbeats 4000000
/-! MiRel: how data lies in the abstract heap; what holds behind an evaluation. -/
namespace Mi
open PySem L2

/-- what a run is over: its world; the tables of its lambdas; the exception that is held -/
class WW where
  w : World
  T : List (Addr × Str)
  x : Option Addr := none
variable [WW]
/-! ### data at values -/
mutual
inductive Rep (K : PySem.W.Frag) (φ : List Addr) (F : Hp) : D → V → Prop
  | non : Rep K φ F .non .non
  | bl (b : Bool) : Rep K φ F (.bl b) (.bl b)
  | int (i : Int) : Rep K φ F (.int i) (.int i)
  | str (s : Str) : Rep K φ F (.str s) (.str s)
  | tup {a : Addr} {ds : List D} {xs : List V} : F a = some (.tup xs) → RepL K φ F ds xs → Rep K φ F (.tup ds) (.ref a)
  | lst {a : Addr} {ds : List D} {xs : List V} : F a = some (.lst xs) → RepL K φ F ds xs → Rep K φ F (.lst ds) (.ref a)
  | dic {a : Addr} {ds : List (Key × D)} {xs : List (Key × V)} : F a = some (.dK xs) → RepK K φ F ds xs → Rep K φ F (.dic ds) (.ref a)
  | ptr {a : Addr} {n : Nat} : φ[n]? = some a → Rep K φ F (.ptr n) (.ref a)
  | inp {a : Addr} {ns : List Int} : SqL K F a (ns.map V.int) → Rep K φ F (.inp ns) (.ref a)
  | gd (x : Str) : Rep K φ F (.gd x) (.ref (He.ga K x))
  | exn {a : Addr} : WW.x = some a → Rep K φ F .exn (.ref a)
inductive RepL (K : PySem.W.Frag) (φ : List Addr) (F : Hp) : List D → List V → Prop
  | nil : RepL K φ F [] []
  | cons {d : D} {v : V} {ds : List D} {vs : List V} : Rep K φ F d v → RepL K φ F ds vs → RepL K φ F (d :: ds) (v :: vs)
inductive RepK (K : PySem.W.Frag) (φ : List Addr) (F : Hp) : List (Key × D) → List (Key × V) → Prop
  | nil : RepK K φ F [] []
  | cons {k : Key} {d : D} {v : V} {ds : List (Key × D)} {vs : List (Key × V)} : Rep K φ F d v → RepK K φ F ds vs → RepK K φ F ((k, d) :: ds) ((k, v) :: vs)
end
inductive RepF (K : PySem.W.Frag) (φ : List Addr) (F : Hp) : List (Str × D) → List (Str × V) → Prop
  | nil : RepF K φ F [] []
  | cons {f : Str} {d : D} {v : V} {ds : List (Str × D)} {vs : List (Str × V)} : Rep K φ F d v → RepF K φ F ds vs → RepF K φ F ((f, d) :: ds) ((f, v) :: vs)

section
variable {K : PySem.W.Frag} {φ φ' ψ : List Addr} {F F' H H' : Hp}
def Sub (F F' : Hp) : Prop := ∀ a o, F a = some o → F' a = some o
theorem Sub.refl : Sub F F := fun _ _ h => h
theorem Sub.trans {F2 : Hp} (a : Sub F F') (b : Sub F' F2) : Sub F F2 := fun x o h => b x o (a x o h)
theorem Sub.new {p : Addr} {o : HO} (h : F p = none) : Sub F (upd F p o) := fun a u e => by
  rw [upd_ne (ne_of_none e h)]
  exact e
theorem Sub.sqL (s : Sub F F') {a : Addr} {xs : List V} (h : SqL K F a xs) : SqL K F' a xs := by
  rcases h with (h | ⟨o, h⟩) | h
  · exact .inl (.inl (s _ _ h))
  · exact .inl (.inr ⟨o, s _ _ h⟩)
  · exact .inr h
def Pre (φ φ' : List Addr) : Prop := ∃ ψ, φ' = φ ++ ψ
theorem Pre.refl : Pre φ φ := ⟨[], by simp⟩
theorem Pre.trans {φ2 : List Addr} : Pre φ φ' → Pre φ' φ2 → Pre φ φ2 := fun ⟨a, ha⟩ ⟨b, hb⟩ => ⟨a ++ b, by rw [hb, ha, List.append_assoc]⟩
theorem Pre.get (p : Pre φ φ') {n : Nat} {a : Addr} (h : φ[n]? = some a) : φ'[n]? = some a := by
  obtain ⟨ψ, rfl⟩ := p
  rw [List.getElem?_append_left (List.getElem?_eq_some_iff.mp h).1]
  exact h
theorem Pre.mem (p : Pre φ φ') {a : Addr} (h : a ∈ φ) : a ∈ φ' := by
  obtain ⟨ψ, rfl⟩ := p
  exact List.mem_append_left _ h
mutual
theorem Rep.mono (p : Pre φ φ') (s : Sub F F') : ∀ {d : D} {v : V}, Rep K φ F d v → Rep K φ' F' d v
  | _, _, .non => .non
  | _, _, .bl b => .bl b
  | _, _, .int i => .int i
  | _, _, .str x => .str x
  | _, _, .tup h r => .tup (s _ _ h) (RepL.mono p s r)
  | _, _, .lst h r => .lst (s _ _ h) (RepL.mono p s r)
  | _, _, .dic h r => .dic (s _ _ h) (RepK.mono p s r)
  | _, _, .ptr h => .ptr (p.get h)
  | _, _, .inp h => .inp (s.sqL h)
  | _, _, .gd x => .gd x
  | _, _, .exn h => .exn h
theorem RepL.mono (p : Pre φ φ') (s : Sub F F') : ∀ {d : List D} {v : List V}, RepL K φ F d v → RepL K φ' F' d v
  | _, _, .nil => .nil
  | _, _, .cons h r => .cons (Rep.mono p s h) (RepL.mono p s r)
theorem RepK.mono (p : Pre φ φ') (s : Sub F F') : ∀ {d : List (Key × D)} {v : List (Key × V)}, RepK K φ F d v → RepK K φ' F' d v
  | _, _, .nil => .nil
  | _, _, .cons h r => .cons (Rep.mono p s h) (RepK.mono p s r)
end
theorem RepF.mono (p : Pre φ φ') (s : Sub F F') : ∀ {d : List (Str × D)} {v : List (Str × V)}, RepF K φ F d v → RepF K φ' F' d v
  | _, _, .nil => .nil
  | _, _, .cons h r => .cons (Rep.mono p s h) (RepF.mono p s r)
theorem RepL.len : ∀ {ds : List D} {vs : List V}, RepL K φ F ds vs → vs.length = ds.length
  | _, _, .nil => rfl
  | _, _, .cons _ r => by simp [RepL.len r]
theorem RepL.get : ∀ {ds : List D} {vs : List V} {i : Nat} {d : D}, RepL K φ F ds vs → ds[i]? = some d → ∃ v, vs[i]? = some v ∧ Rep K φ F d v
  | _, _, 0, _, .cons h _, e => by
    simp at e
    subst e
    exact ⟨_, rfl, h⟩
  | _, _, i + 1, _, .cons _ r, e => by
    obtain ⟨v, h1, h2⟩ := RepL.get (i := i) r (by simpa using e)
    exact ⟨v, by simpa using h1, h2⟩
theorem RepL.getV : ∀ {ds : List D} {vs : List V} {i : Nat} {v : V}, RepL K φ F ds vs → vs[i]? = some v → ∃ d, ds[i]? = some d ∧ Rep K φ F d v
  | _, _, 0, _, .cons h _, e => by
    simp at e
    subst e
    exact ⟨_, rfl, h⟩
  | _, _, i + 1, _, .cons _ r, e => by
    obtain ⟨v, h1, h2⟩ := RepL.getV (i := i) r (by simpa using e)
    exact ⟨v, by simpa using h1, h2⟩
theorem RepL.append : ∀ {ds es : List D} {vs ws : List V}, RepL K φ F ds vs → RepL K φ F es ws → RepL K φ F (ds ++ es) (vs ++ ws)
  | _, _, _, _, .nil, s => s
  | _, _, _, _, .cons h r, s => .cons h (RepL.append r s)
theorem RepL.drop : ∀ {ds : List D} {vs : List V} (n : Nat), RepL K φ F ds vs → RepL K φ F (ds.drop n) (vs.drop n)
  | _, _, 0, r => r
  | _, _, _ + 1, .nil => .nil
  | _, _, n + 1, .cons _ r => RepL.drop n r
theorem RepL.take : ∀ {ds : List D} {vs : List V} (n : Nat), RepL K φ F ds vs → RepL K φ F (ds.take n) (vs.take n)
  | _, _, 0, _ => .nil
  | _, _, _ + 1, .nil => .nil
  | _, _, n + 1, .cons h r => .cons h (RepL.take n r)
theorem RepL.reverse : ∀ {ds : List D} {vs : List V}, RepL K φ F ds vs → RepL K φ F ds.reverse vs.reverse
  | _, _, .nil => .nil
  | _, _, .cons h r => by
    rw [List.reverse_cons, List.reverse_cons]
    exact RepL.append (RepL.reverse r) (.cons h .nil)
theorem RepL.set {d : D} {v : V} (h : Rep K φ F d v) : ∀ {ds : List D} {vs : List V} (i : Nat), RepL K φ F ds vs → RepL K φ F (ds.set i d) (vs.set i v)
  | _, _, _, .nil => .nil
  | _, _, 0, .cons _ r => .cons h r
  | _, _, i + 1, .cons q r => .cons q (RepL.set h i r)
theorem RepL.erase : ∀ {ds : List D} {vs : List V} (i : Nat), RepL K φ F ds vs → RepL K φ F (ds.eraseIdx i) (vs.eraseIdx i)
  | _, _, _, .nil => .nil
  | _, _, 0, .cons _ r => r
  | _, _, i + 1, .cons q r => .cons q (RepL.erase i r)
theorem RepL.dropLast {ds : List D} {vs : List V} (r : RepL K φ F ds vs) : RepL K φ F ds.dropLast vs.dropLast := by
  rw [List.dropLast_eq_take, List.dropLast_eq_take, r.len]
  exact r.take _
theorem RepL.rep {ds : List D} {vs : List V} (r : RepL K φ F ds vs) : ∀ k : Nat, RepL K φ F (List.replicate k ds).flatten (List.replicate k vs).flatten
  | 0 => .nil
  | k + 1 => by
    rw [List.replicate_succ, List.replicate_succ, List.flatten_cons, List.flatten_cons]
    exact r.append (RepL.rep r k)
theorem RepL.cut {ds : List D} {vs : List V} (r : RepL K φ F ds vs) (lo hi : Option Int) : RepL K φ F (cutD ds lo hi) (cutV vs lo hi) := by
  unfold cutD cutV
  rw [r.len]
  exact (r.drop _).take _
theorem RepL.ints : ∀ {ns : List Int}, RepL K φ F (ns.map .int) (ns.map V.int)
  | [] => .nil
  | n :: r => .cons (.int n) RepL.ints
theorem RepL.strs : ∀ {ns : List Str}, RepL K φ F (ns.map .str) (ns.map V.str)
  | [] => .nil
  | n :: r => .cons (.str n) RepL.strs
theorem RepL.toInts : ∀ {ds : List D} {ns : List Int} {vs : List V}, intsD ds = some ns → RepL K φ F ds vs → vs = ns.map V.int
  | [], ns, _, e, .nil => by cases e; rfl
  | .int i :: ds, ns, _, e, .cons (.int _) r => by
    have e1 : (intsD ds).map (i :: ·) = some ns := e
    cases h : intsD ds with
    | none => rw [h] at e1; cases e1
    | some ms =>
      rw [h] at e1
      cases e1
      rw [RepL.toInts h r]
      rfl
theorem RepL.toStrs : ∀ {ds : List D} {ns : List Str} {vs : List V}, strsD ds = some ns → RepL K φ F ds vs → vs = ns.map V.str
  | [], ns, _, e, .nil => by cases e; rfl
  | .str i :: ds, ns, _, e, .cons (.str _) r => by
    have e1 : (strsD ds).map (i :: ·) = some ns := e
    cases h : strsD ds with
    | none => rw [h] at e1; cases e1
    | some ms =>
      rw [h] at e1
      cases e1
      rw [RepL.toStrs h r]
      rfl
end

/-! ### dicts whose keys are tuples -/
inductive RepN (K : PySem.W.Frag) (φ : List Addr) (F : Hp) : List (NestedKey × D) → List (NestedKey × Addr × V) → Prop
  | nil : RepN K φ F [] []
  | cons {k : NestedKey} {b : Addr} {d : D} {v : V} {ds : List (NestedKey × D)} {vs : List (NestedKey × Addr × V)} : Rep K φ F (dNK k) (.ref b) → k.depth ≤ 8 → Rep K φ F d v → RepN K φ F ds vs → RepN K φ F ((k, d) :: ds) ((k, b, v) :: vs)
theorem RepN.mono {K : PySem.W.Frag} {φ φ' : List Addr} {F F' : Hp} (p : Pre φ φ') (s : Sub F F') : ∀ {d : List (NestedKey × D)} {v : List (NestedKey × Addr × V)}, RepN K φ F d v → RepN K φ' F' d v
  | _, _, .nil => .nil
  | _, _, .cons h1 h2 h3 r => .cons (h1.mono p s) h2 (h3.mono p s) (RepN.mono p s r)
theorem RepN.len {K : PySem.W.Frag} {φ : List Addr} {F : Hp} : ∀ {d : List (NestedKey × D)} {v : List (NestedKey × Addr × V)}, RepN K φ F d v → v.length = d.length
  | _, _, .nil => rfl
  | _, _, .cons _ _ _ r => by simp [RepN.len r]
def nstEnt (x : NestedKey × Addr × Value) : DictEntry := ⟨x.1.hash WW.w, .ref x.2.1, x.2.2⟩
abbrev NVs : List (NestedKey × Addr × V) → List (NestedKey × Addr × Value) → Prop := Paired fun p q => p.1 = q.1 ∧ p.2.1 = q.2.1 ∧ RelV p.2.2 q.2.2
def NstX (a : Addr) (xs : List (NestedKey × Addr × V)) : Heap → Prop := fun h => ∃ ys, NVs xs ys ∧ ∃ o es ep, h.get? a = some o ∧ o.ExactDict ∧ o.data = .dict es ep ∧ es.toList = ys.map nstEnt
/-- the dict at a: its keys, each at its own tuple, their values -/
def NstO (a : Addr) (xs : List (NestedKey × Addr × V)) : HO := .ext (NstX a xs)
/-! ### memory -/
def CellR (K : PySem.W.Frag) (φ : List Addr) (F H : Hp) (a : Addr) : Cell → Prop
  | .lst ds => ∃ xs, H a = some (.lst xs) ∧ RepL K φ F ds xs
  | .dct kvs => ∃ vs, H a = some (.dK vs) ∧ RepK K φ F kvs vs
  | .nst kvs => kvs.length ≤ sizeLine ∧ (a == sysModules) = false ∧ (kvs.map (·.1)).Nodup ∧ ∃ xs, H a = some (NstO a xs) ∧ RepN K φ F kvs xs
  | .ins C fs => ∃ dx vs, H a = some (.ins (He.ga K C) dx vs) ∧ RepF K φ F fs vs
/-! ### tables of lambdas and their code objects -/
def TC (o : HO) : Prop := (∃ ps, o = .tbl ps) ∨ ∃ c q, o = LamX.CodeO c q
class NTC (o : HO) : Prop where
  h : ¬ TC o
/-- a heap that holds one object, at c -/
def oneH (c : Addr) (o : Obj) : Heap := { objs := (Array.replicate c { cls := .none, data := .freed }).push o }
theorem oneH_at {c : Addr} {o : Obj} (h : o.data ≠ .freed) : (oneH c o).get? c = some o := by
  obtain ⟨a, b, d, e⟩ := o
  have e1 : ((Array.replicate c ({ cls := .none, data := .freed } : Obj)).push ⟨a, b, d, e⟩)[c]? = some ⟨a, b, d, e⟩ := by
    have := Array.getElem?_push_size (xs := Array.replicate c ({ cls := .none, data := .freed } : Obj)) (x := (⟨a, b, d, e⟩ : Obj))
    simpa using this
  unfold oneH Heap.get?
  simp only [e1]
  cases d <;> first | rfl | exact absurd rfl h
theorem oneH_off {c b : Addr} {o : Obj} (h : b ≠ c) : (oneH c o).get? b = none := by
  unfold oneH Heap.get?
  simp only
  by_cases hb : b < c
  · have e1 : ((Array.replicate c ({ cls := .none, data := .freed } : Obj)).push o)[b]? = some { cls := .none, data := .freed } := by
      rw [Array.getElem?_push_lt (by simpa using hb)]
      simp
    rw [e1]
  · have e1 : ((Array.replicate c ({ cls := .none, data := .freed } : Obj)).push o)[b]? = none := by
      rw [Array.getElem?_eq_none]
      rw [Array.size_push, Array.size_replicate]
      exact Nat.lt_of_le_of_ne (Nat.le_of_not_lt hb) (fun e => h e.symm)
    rw [e1]
theorem nst_ne_code {a c : Addr} {xs : List (NestedKey × Addr × V)} {q : Str} : NstO a xs ≠ LamX.CodeO c q := fun h => by
  unfold NstO LamX.CodeO at h
  have e := HO.ext.inj h
  have e2 := congrFun e (oneH c { cls := .none, data := .fields #[.none, .str q 0] })
  have h1 : ∃ (oc : Obj) (vs : Array Value) (t : Tok), (oneH c { cls := .none, data := .fields #[.none, .str q 0] }).get? c = some oc ∧ oc.data = .fields vs ∧ vs[1]? = some (.str q t) := ⟨_, _, 0, oneH_at (by simp), rfl, rfl⟩
  rw [← e2] at h1
  obtain ⟨_, _, o, es, ep, h2, _, h3, _⟩ := h1
  by_cases hac : a = c
  · subst hac
    rw [oneH_at (by simp)] at h2
    cases h2
    cases h3
  · rw [oneH_off hac] at h2
    cases h2
instance {xs : List V} : NTC (.lst xs) := ⟨fun h => by
  rcases h with ⟨_, h⟩ | ⟨_, _, h⟩
  · cases h
  · unfold LamX.CodeO at h; cases h⟩
instance {xs : List V} : NTC (.tup xs) := ⟨fun h => by
  rcases h with ⟨_, h⟩ | ⟨_, _, h⟩
  · cases h
  · unfold LamX.CodeO at h; cases h⟩
instance {xs : List (Key × V)} : NTC (.dK xs) := ⟨fun h => by
  rcases h with ⟨_, h⟩ | ⟨_, _, h⟩
  · cases h
  · unfold LamX.CodeO at h; cases h⟩
instance {xs : List (List Key × V)} : NTC (.dT xs) := ⟨fun h => by
  rcases h with ⟨_, h⟩ | ⟨_, _, h⟩
  · cases h
  · unfold LamX.CodeO at h; cases h⟩
instance {C dx : Addr} {fs : List (Str × V)} : NTC (.ins C dx fs) := ⟨fun h => by
  rcases h with ⟨_, h⟩ | ⟨_, _, h⟩
  · cases h
  · unfold LamX.CodeO at h; cases h⟩
instance {x : Addr} : NTC (.own x) := ⟨fun h => by
  rcases h with ⟨_, h⟩ | ⟨_, _, h⟩
  · cases h
  · unfold LamX.CodeO at h; cases h⟩
instance {a : Addr} {xs : List (NestedKey × Addr × V)} : NTC (NstO a xs) := ⟨fun h => by
  rcases h with ⟨_, h⟩ | ⟨_, _, h⟩
  · unfold NstO at h; cases h
  · exact nst_ne_code h⟩
theorem NTC.tbl {o : HO} [n : NTC o] : ∀ ps, o ≠ .tbl ps := fun ps e => n.h (.inl ⟨ps, e⟩)
theorem tabs_upd {T : List (Addr × Str)} {H : Hp} {p : Addr} {o' : HO} (h : ∀ o, H p = some o → ¬ TC o) (t : LamX.Tabs T H) : LamX.Tabs T (upd H p o') := fun q hq => by
  obtain ⟨ps, h1, h2, h3⟩ := t q hq
  refine ⟨ps, by rw [upd_ne fun e => h _ (by rw [← e]; exact h1) (.inl ⟨ps, rfl⟩)]; exact h1, h2, fun pos cv hc => ?_⟩
  obtain ⟨c, e1, e2⟩ := h3 pos cv hc
  exact ⟨c, e1, by rw [upd_ne fun e => h _ (by rw [← e]; exact e2) (.inr ⟨_, _, rfl⟩)]; exact e2⟩
/-- nothing there, or a table -/
def Nt (H : Hp) (a : Addr) : Prop := ∀ o, H a = some o → ∃ ps, o = .tbl ps
theorem Nt.none {H : Hp} {a : Addr} (h : H a = .none) : Nt H a := fun o e => by rw [h] at e; cases e
theorem Nt.not {H : Hp} {a : Addr} {o : HO} [n : NTC o] (h : H a = some o) : ¬ Nt H a := fun q => by
  obtain ⟨ps, e⟩ := q o h
  exact n.tbl ps e
theorem Nt.upd_ne {H : Hp} {a p : Addr} {o : HO} (h : a ≠ p) : Nt (upd H p o) a ↔ Nt H a := by
  unfold Nt
  rw [L2.upd_ne h]
structure MR (K : PySem.W.Frag) (φ : List Addr) (F H : Hp) (m : Mem) : Prop where
  ext : Sub F H
  len : φ.length = m.length
  nod : φ.Nodup
  cell : ∀ (n : Nat) (a : Addr) (c : Cell), φ[n]? = some a → m[n]? = some c → F a = none ∧ CellR K φ F H a c
  tab : LamX.Tabs WW.T H
  ntb : ∀ a ps, F a ≠ some (.tbl ps)
structure Stp (φ : List Addr) (F H : Hp) (φ' : List Addr) (F' H' : Hp) : Prop where
  pre : Pre φ φ'
  fx : Sub F F'
  keep : ∀ a o, H a = some o → a ∉ φ → (∀ ps, o ≠ .tbl ps) → H' a = some o
  new : ∀ a o, F' a = some o → F a = some o ∨ Nt H a
  dom : ∀ a, Nt H' a → Nt H a
  nw : ∀ a, a ∈ φ' → a ∈ φ ∨ Nt H a
section
variable {K : PySem.W.Frag} {φ φ' φ2 : List Addr} {F F' F2 H H' H2 : Hp} {m m' : Mem}
theorem CellR.ntc {a : Addr} {c : Cell} (h : CellR K φ F H a c) : ∃ o, H a = some o ∧ NTC o := by
  cases c with
  | lst ds => obtain ⟨xs, q, _⟩ := h; exact ⟨_, q, inferInstance⟩
  | dct ds => obtain ⟨xs, q, _⟩ := h; exact ⟨_, q, inferInstance⟩
  | nst ds => obtain ⟨_, _, _, xs, q, _⟩ := h; exact ⟨_, q, inferInstance⟩
  | ins C fs => obtain ⟨dx, xs, q, _⟩ := h; exact ⟨_, q, inferInstance⟩
theorem Stp.refl : Stp φ F H φ F H := ⟨Pre.refl, Sub.refl, fun _ _ h _ _ => h, fun _ _ h => .inl h, fun _ h => h, fun _ h => .inl h⟩
theorem Stp.trans (a : Stp φ F H φ' F' H') (b : Stp φ' F' H' φ2 F2 H2) : Stp φ F H φ2 F2 H2 := by
  refine ⟨a.pre.trans b.pre, a.fx.trans b.fx, fun x o h hn ht => ?_, fun x o h => ?_, fun x h => a.dom x (b.dom x h), fun x h => ?_⟩
  · refine b.keep x o (a.keep x o h hn ht) (fun hm => ?_) ht
    rcases a.nw x hm with q | q
    · exact hn q
    · obtain ⟨ps, e⟩ := q o h
      exact ht ps e
  · rcases b.new x o h with q | q
    · exact a.new x o q
    · exact .inr (a.dom x q)
  · rcases b.nw x h with q | q
    · exact a.nw x q
    · exact .inr (a.dom x q)
theorem MR.off (r : MR K φ F H m) {a : Addr} {o : HO} (h : F a = some o) : a ∉ φ := fun hm => by
  obtain ⟨n, hn, e⟩ := List.mem_iff_getElem.mp hm
  have h1 : φ[n]? = some a := by rw [List.getElem?_eq_getElem hn, e]
  have h2 : n < m.length := by rw [← r.len]; exact hn
  obtain ⟨q, _⟩ := r.cell n a m[n] h1 (List.getElem?_eq_getElem h2)
  rw [h] at q; cases q
theorem MR.ntc (r : MR K φ F H m) {a : Addr} (h : a ∈ φ) : ∃ o, H a = some o ∧ NTC o := by
  obtain ⟨n, hn, ea⟩ := List.mem_iff_getElem.mp h
  have h1 : φ[n]? = some a := by rw [List.getElem?_eq_getElem hn, ea]
  have h2 : n < m.length := by rw [← r.len]; exact hn
  obtain ⟨_, c⟩ := r.cell n a m[n] h1 (List.getElem?_eq_getElem h2)
  exact c.ntc
theorem MR.there (r : MR K φ F H m) {a : Addr} (h : a ∈ φ) : H a ≠ none := fun e => by
  obtain ⟨o, q, _⟩ := r.ntc h
  rw [e] at q; cases q
theorem MR.at (r : MR K φ F H m) {n : Nat} {c : Cell} (h : m[n]? = some c) : ∃ a, φ[n]? = some a ∧ F a = none ∧ CellR K φ F H a c := by
  have h2 : n < φ.length := by rw [r.len]; exact (List.getElem?_eq_some_iff.mp h).1
  exact ⟨φ[n], List.getElem?_eq_getElem h2, r.cell n _ c (List.getElem?_eq_getElem h2) h⟩
theorem CellR.mono (p : Pre φ φ') (s : Sub F F') {a : Addr} (h : ∀ o, H a = some o → H' a = some o) {c : Cell} (r : CellR K φ F H a c) : CellR K φ' F' H' a c := by
  cases c with
  | lst ds => obtain ⟨xs, q, x⟩ := r; exact ⟨xs, h _ q, x.mono p s⟩
  | dct ds => obtain ⟨xs, q, x⟩ := r; exact ⟨xs, h _ q, x.mono p s⟩
  | nst ds => obtain ⟨l, b, n, xs, q, x⟩ := r; exact ⟨l, b, n, xs, h _ q, x.mono p s⟩
  | ins C fs => obtain ⟨dx, xs, q, x⟩ := r; exact ⟨dx, xs, h _ q, x.mono p s⟩
theorem tabs_new {p : Addr} {o : HO} (hp : H p = none) (t : LamX.Tabs WW.T H) : LamX.Tabs WW.T (upd H p o) := tabs_upd (fun o e => by rw [hp] at e; cases e) t
/-- a new frozen object -/
theorem MR.freeze (r : MR K φ F H m) {p : Addr} {o : HO} [no : NTC o] (hp : H p = none) : MR K φ (upd F p o) (upd H p o) m ∧ Stp φ F H φ (upd F p o) (upd H p o) := by
  have hF : F p = none := by
    cases e : F p with
    | none => rfl
    | some u => rw [r.ext _ _ e] at hp; cases hp
  have hn : p ∉ φ := fun h => r.there h hp
  refine ⟨⟨fun a u e => ?_, r.len, r.nod, fun n a c h1 h2 => ?_, tabs_new hp r.tab, fun a ps e => ?_⟩, ⟨Pre.refl, Sub.new hF, fun a u e _ _ => ?_, fun a u e => ?_, fun a e => ?_, fun a h => .inl h⟩⟩
  · by_cases h : a = p
    · subst h; rw [upd_same] at e ⊢; exact e
    · rw [upd_ne h] at e ⊢; exact r.ext _ _ e
  · obtain ⟨q, x⟩ := r.cell n a c h1 h2
    have ne : a ≠ p := fun e => hn (e ▸ List.mem_of_getElem? h1)
    exact ⟨by rw [upd_ne ne]; exact q, x.mono Pre.refl (Sub.new hF) fun o e => by rw [upd_ne ne]; exact e⟩
  · by_cases h : a = p
    · subst h; rw [upd_same] at e; cases e; exact no.tbl ps rfl
    · rw [upd_ne h] at e; exact r.ntb a ps e
  · rw [upd_ne (ne_of_none e hp)]; exact e
  · by_cases h : a = p
    · subst h; exact .inr (Nt.none hp)
    · rw [upd_ne h] at e; exact .inl e
  · by_cases h : a = p
    · subst h; exact Nt.none hp
    · exact (Nt.upd_ne h).mp e
/-- a new cell -/
theorem MR.push (r : MR K φ F H m) {p : Addr} {o : HO} {c : Cell} (hp : H p = none) (hc : CellR K (φ ++ [p]) F (upd H p o) p c) : MR K (φ ++ [p]) F (upd H p o) (m ++ [c]) ∧ Stp φ F H (φ ++ [p]) F (upd H p o) := by
  have hF : F p = none := by
    cases e : F p with
    | none => rfl
    | some u => rw [r.ext _ _ e] at hp; cases hp
  have hn : p ∉ φ := fun h => r.there h hp
  refine ⟨⟨fun a u e => ?_, by simp [r.len], ?_, fun n a c' h1 h2 => ?_, tabs_new hp r.tab, r.ntb⟩, ⟨⟨[p], rfl⟩, Sub.refl, fun a u e _ _ => ?_, fun a u e => .inl e, fun a e => ?_, fun a h => ?_⟩⟩
  · rw [upd_ne (ne_of_none e hF)]; exact r.ext _ _ e
  · rw [List.nodup_append]
    refine ⟨r.nod, by simp, fun a ha b hb => ?_⟩
    rw [List.mem_singleton] at hb
    subst hb
    exact fun e => hn (e ▸ ha)
  · by_cases hi : n < φ.length
    · rw [List.getElem?_append_left hi] at h1
      rw [List.getElem?_append_left (by rw [← r.len]; exact hi)] at h2
      obtain ⟨q, x⟩ := r.cell n a c' h1 h2
      have ne : a ≠ p := fun e => hn (e ▸ List.mem_of_getElem? h1)
      exact ⟨q, x.mono ⟨[p], rfl⟩ Sub.refl fun o e => by rw [upd_ne ne]; exact e⟩
    · rw [List.getElem?_append_right (by omega)] at h1
      rw [List.getElem?_append_right (by rw [← r.len]; omega)] at h2
      have h0 : n - φ.length = 0 := by
        by_cases z : n - φ.length = 0
        · exact z
        · rw [List.getElem?_eq_none (by simp; omega)] at h1; cases h1
      rw [h0] at h1
      rw [← r.len, h0] at h2
      simp at h1 h2
      subst h1 h2
      exact ⟨hF, hc⟩
  · rw [upd_ne (ne_of_none e hp)]; exact e
  · by_cases h : a = p
    · subst h; exact Nt.none hp
    · exact (Nt.upd_ne h).mp e
  · rcases List.mem_append.mp h with q | q
    · exact .inl q
    · rw [List.mem_singleton] at q
      subst q
      exact .inr (Nt.none hp)
/-- a cell is changed -/
theorem MR.write (r : MR K φ F H m) {n : Nat} {a : Addr} {o : HO} {c : Cell} (ha : φ[n]? = some a) (hc : CellR K φ F (upd H a o) a c) : MR K φ F (upd H a o) (m.set n c) ∧ Stp φ F H φ F (upd H a o) := by
  have hm : a ∈ φ := List.mem_of_getElem? ha
  have hF : F a = none := by
    cases e : F a with
    | none => rfl
    | some u => exact absurd hm (r.off e)
  obtain ⟨oa, ea, na⟩ := r.ntc hm
  refine ⟨⟨fun b u e => ?_, by simp [r.len], r.nod, fun k b c' h1 h2 => ?_, tabs_upd (fun o e => by rw [ea] at e; cases e; exact na.h) r.tab, r.ntb⟩, ⟨Pre.refl, Sub.refl, fun b u e hb _ => ?_, fun b u e => .inl e, fun b e => ?_, fun b h => .inl h⟩⟩
  · rw [upd_ne (ne_of_none e hF)]; exact r.ext _ _ e
  · by_cases hk : k = n
    · subst hk
      rw [ha] at h1
      cases h1
      rw [List.getElem?_set_self (by
        have := (List.getElem?_eq_some_iff.mp ha).1
        rw [r.len] at this
        exact this)] at h2
      cases h2
      exact ⟨hF, hc⟩
    · rw [List.getElem?_set_ne (Ne.symm hk)] at h2
      obtain ⟨q, x⟩ := r.cell k b c' h1 h2
      have ne : b ≠ a := fun e => by
        subst e
        obtain ⟨i1, e1⟩ := List.getElem?_eq_some_iff.mp h1
        obtain ⟨i2, e2⟩ := List.getElem?_eq_some_iff.mp ha
        exact hk ((List.getElem_inj r.nod).mp (e1.trans e2.symm))
      exact ⟨q, x.mono Pre.refl Sub.refl fun o e => by rw [upd_ne ne]; exact e⟩
  · rw [upd_ne fun (q : b = a) => hb (by rw [q]; exact hm)]; exact e
  · by_cases h : b = a
    · subst h
      obtain ⟨o1, e1, n1⟩ := hc.ntc
      exact absurd e (Nt.not e1)
    · exact (Nt.upd_ne h).mp e
end
/-! ### slots -/
structure EnvR (K : PySem.W.Frag) (φ : List Addr) (F : Hp) (e : EnvD) (σ : L2.St) : Prop where
  len : e.length = σ.length
  val : ∀ (i : Nat) (d : D), e[i]? = some (some d) → ∃ v, σ[i]? = some (some v) ∧ Rep K φ F d v
section
variable {K : PySem.W.Frag} {φ φ' : List Addr} {F F' : Hp} {e : EnvD} {σ : L2.St}
theorem EnvR.mono (r : EnvR K φ F e σ) (p : Pre φ φ') (s : Sub F F') : EnvR K φ' F' e σ :=
  ⟨r.len, fun i d h => let ⟨v, h1, h2⟩ := r.val i d h; ⟨v, h1, h2.mono p s⟩⟩
theorem EnvR.set (r : EnvR K φ F e σ) {d : D} {v : V} (h : Rep K φ F d v) (i : Nat) : EnvR K φ F (e.set i (some d)) (σ.set i (some v)) := by
  refine ⟨by simp [r.len], fun j d' hj => ?_⟩
  by_cases hi : j = i
  · subst hi
    have hl : j < e.length := by
      have := (List.getElem?_eq_some_iff.mp hj).1
      simpa using this
    rw [List.getElem?_set_self hl] at hj
    cases hj
    exact ⟨v, by rw [List.getElem?_set_self (by rw [← r.len]; exact hl)], h⟩
  · rw [List.getElem?_set_ne (Ne.symm hi)] at hj ⊢
    exact r.val j d' hj
theorem EnvR.none (r : EnvR K φ F e σ) (i : Nat) : EnvR K φ F (e.set i none) (σ.set i none) := by
  refine ⟨by simp [r.len], fun j d' hj => ?_⟩
  by_cases hi : j = i
  · subst hi
    have hl : j < e.length := by
      have := (List.getElem?_eq_some_iff.mp hj).1
      simpa using this
    rw [List.getElem?_set_self hl] at hj
    cases hj
  · rw [List.getElem?_set_ne (Ne.symm hi)] at hj ⊢
    exact r.val j d' hj
theorem EnvR.wipe (r : EnvR K φ F e σ) : ∀ vs : List Nat, EnvR K φ F (wipeE e vs) (L2.wipe σ vs)
  | [] => r
  | v :: vs => (EnvR.wipe r vs).none v
end
/-! ### what holds behind -/
structure ExR (K : PySem.W.Frag) (φ : List Addr) (F H : Hp) (x : Exn) (c : Value) (dd : Option Addr) : Prop where
  cls : c = .ref (He.ga K x.cls)
  fs : (x.fs = [] ∧ dd = none) ∨ ∃ a vs, dd = some a ∧ H a = some (.xd vs) ∧ RepF K φ F x.fs vs ∧ a ∉ φ
  no : x.fs = [] → dd = none
section
variable (K : PySem.W.Frag) (W : WX) {α β : Type} (R : List Addr → Hp → α → β → Prop)
def Pst (σ : L2.St) (φ : List Addr) (F H : Hp) (r : Res α) (Q : β → Hp → Prop) : Prop := match r with
  | .stuck => False
  | .ok a m => ∀ φ' F' H' b, Stp φ F H φ' F' H' → MR K φ' F' H' m → R φ' F' a b → Q b H'
  | .exc x m => ∀ φ' F' H' c dd, Stp φ F H φ' F' H' → MR K φ' F' H' m → ExR K φ' F' H' x c dd → W c dd σ H'
def Tm (f : EnvD → Mem → Res α) : L2.St → Hp → (β → Hp → Prop) → Prop := fun σ H Q => ∃ φ F e m, MR K φ F H m ∧ EnvR K φ F e σ ∧ Pst K W R σ φ F H (f e m) Q
end
abbrev RD (K : PySem.W.Frag) : List Addr → Hp → D → V → Prop := fun φ F d v => Rep K φ F d v
abbrev RL (K : PySem.W.Frag) : List Addr → Hp → List D → List V → Prop := fun φ F d v => RepL K φ F d v
abbrev RQ {α : Type} : List Addr → Hp → α → α → Prop := fun _ _ a b => a = b
section
variable {K : PySem.W.Frag} {W : WX} {α β γ δ : Type} {R : List Addr → Hp → α → β → Prop} {S : List Addr → Hp → γ → δ → Prop} {σ : L2.St} {φ φ' : List Addr} {F F' H H' : Hp}
theorem Pst.step {r : Res α} {Q : β → Hp → Prop} (st : Stp φ F H φ' F' H') (h : Pst K W R σ φ F H r Q) : Pst K W R σ φ' F' H' r Q := by
  cases r with
  | stuck => exact h
  | ok a m => exact fun φ2 F2 H2 b s2 => h φ2 F2 H2 b (st.trans s2)
  | exc x m => exact fun φ2 F2 H2 c dd s2 => h φ2 F2 H2 c dd (st.trans s2)
/-- one part behind another -/
theorem Pst.bind {r : Res γ} {k : γ → Mem → Res α} {Q : β → Hp → Prop} {Q1 : δ → Hp → Prop} (h : Pst K W R σ φ F H (r.bind k) Q)
    (hk : ∀ c m φ1 F1 H1 d, r = .ok c m → Stp φ F H φ1 F1 H1 → MR K φ1 F1 H1 m → S φ1 F1 c d → Pst K W R σ φ1 F1 H1 (k c m) Q → Q1 d H1) : Pst K W S σ φ F H r Q1 := by
  cases r with
  | stuck => exact h
  | ok c m => exact fun φ1 F1 H1 d st mr s => hk c m φ1 F1 H1 d rfl st mr s (Pst.step st h)
  | exc x m => exact h
theorem Pst.okQ {a : α} {m : Mem} {b : β} {Q : β → Hp → Prop} (h : Pst K W R σ φ F H (.ok a m) Q) (mr : MR K φ F H m) (r : R φ F a b) : Q b H := h φ F H b Stp.refl mr r
theorem Pst.retO {o : Option α} {m : Mem} {Q : β → Hp → Prop} (h : Pst K W R σ φ F H (retO o m) Q) : ∃ a, o = some a ∧ Pst K W R σ φ F H (.ok a m) Q := by
  cases o with
  | none => exact h.elim
  | some a => exact ⟨a, rfl, h⟩
end
end Mi

set_option Elab.async false
set_option linter.all false
set_option maxRecDepth 100000
set_option maxHeartbeats 4000000
/-! MiOps: operators, subscripts, built-ins and their methods, by data. -/
namespace L2
open PySem PySem.Spec PyProof.Rows
/-- t * 1 is t itself -/
theorem tup_mul_one (l : Addr) (items : Array Value) (n : Nat) (dd : Option Addr) (sl : Array (Option Value)) (u : Tok) :
    Meets (Builtin.«tuple.__mul__» ⟨[.ref l, .int 1 u], []⟩) (fun _ R s => s.heap.get? l = some { cls := .type "tuple", dict := dd, data := .seq items n, slots := sl } ∧ R (.ok (.ret (Value.ref l))) s) :=
  .of_wp fun prog w A R s h => by
    obtain ⟨hp, g, d, tk, os⟩ := s
    obtain ⟨hl, h⟩ := h
    have f1 := AutoSeq1.idx_int
    have c1 : (items.isEmpty || (1 : Int) == 1) = true := by simp
    wp_walk using wpAny_loadPart' hl
    exact ⟨_, rfl, h⟩
/-- t * k, t of some items, 1 ≤ k -/
theorem op_repM {X : Cx} : OpR X (binaryOp .Mult) (fun x y H Q => ∃ l k xs, x = .ref l ∧ y = .int k ∧ SqT X.K H l xs ∧ xs ≠ [] ∧ 1 ≤ k ∧ k ≤ 1000 ∧ xs.length ≤ 1000 ∧ (k = 1 → Q (.ref l) H) ∧ ∀ p, H p = none → Q (.ref p) (upd H p (.tup (List.replicate k.toNat xs).flatten))) := by
  intro pins s σ H x y v u Q I rx ry h
  obtain ⟨l, k, xs, rfl, rfl, hT, hne, h1, h2, hz, q1, q⟩ := h
  by_cases hk : k = 1
  · subst hk
    cases rx
    obtain ⟨t, rfl⟩ := ry
    obtain ⟨its, r, ⟨⟨cls, dd, data, sl⟩, ho, hc, n, hd⟩, hs⟩ := I.tuple hT
    simp only at hc hd
    subst hc hd
    exact wpAny_binaryOp_repeat_ref (T := "tuple") (U := "int") (by decide) ⟨_, ho, rfl⟩ (fun s' => typeIs_int s' 1 t) noFill_tuple_mul F.fills_int_mul F.slot_int_rmul repeat_tuple F.slot_int_index.lookup
      (call_meets F.slot_int_rmul (typeIs_int s 1 t) F.entry_int_rmul (F.args_int_rmul_2 _ _) (int_rmul_tuple 1 t l its.toArray n dd sl)
        ⟨ho, rfl, ⟨_, ho, rfl⟩, call_meets F.slot_tuple_mul ⟨_, ho, rfl⟩ F.entry_tuple_mul (F.args_tuple_mul_2 _ _) (tup_mul_one l its.toArray n dd sl t) ⟨ho, .ref l, H, I, rfl, q1 rfl⟩⟩)
  · exact op_repT pins s σ H _ _ v u Q I rx ry ⟨l, k, xs, rfl, rfl, hT, hne, by omega, h2, hz, q⟩
end L2
namespace Mi
open PySem L2
variable [WW]

/-! ### the context -/
def spOf (K : PySem.W.Frag) (n : Nat) (g : Fn) : Sp := fun vs H Q E => vs.length = n ∧ ∃ φ F ds m, MR K φ F H m ∧ RepL K φ F ds vs ∧ Pst K (fun c dd _ H => E c dd H) (RD K) [] φ F H (g ds m) Q
def bltNames : List Str := ["isinstance", "len", "range", "list", "tuple", "sorted", "set", "str", "int", "bool", "zip", "max", "min", "reversed", "dict", "enumerate"]
/-- an own exception class without values -/
structure ExcOk (K : PySem.W.Frag) (mg : Str → Option Value) (x : Str) : Prop where
  q : PySem.W.excIn K (He.ga K x) He.veBase "ValueError.__new__" = true
  keep : PySem.W.keepIn K (.ref (He.ga K x)) = true
  sub : PySem.W.subIn K (.ref (He.ga K x)) (.type "BaseException") = some true
  ty : PySem.W.typeIn K (.ref (He.ga K x)) = some (.type "type")
  mg : mg x = some (.ref (He.ga K x))
structure GOk (P : Program) (w : World) (K : PySem.W.Frag) (mg : Str → Option Value) (base : Heap) (k : Nat) (G : Gx) : Prop where
  ww : WW.w = w
  con : ∀ x d, G.con x = some d → ∃ u v, mg x = some u ∧ RelV v u ∧ ∀ φ F, Rep K φ F d v
  dcs : ∀ x kvs, G.dcs x = some kvs → ∃ es n, KDict K w (He.ga K x) es n ∧ ∀ z : Str, ∃ r, PySem.W.nsIn K (He.ga K x) z = some r ∧ match kvs.lookup z with
    | none => r = none
    | some d => ∃ u v, r = some u ∧ RelV v u ∧ ∀ φ F, Rep K φ F d v
  fn : ∀ x g, G.fn x = some g → ∃ f fd ps, FnOk P w K mg base (L2.CX P w) k f fd ps (spOf K ps.length g) ∧ (∀ ds m, ds.length ≠ ps.length → g ds m = .stuck) ∧ mg x = some (.ref f) ∧ PySem.W.keepIn K (.ref f) = true ∧ Binds K fd ps []
  ini : ∀ C g, G.ini C = some g → ∃ f fd ps, FnOk P w K mg base (L2.CX P w) k f fd ps (spOf K ps.length g) ∧ (∀ ds m, ds.length ≠ ps.length → g ds m = .stuck) ∧ Mk K (He.ga K C) f ∧ mg C = some (.ref (He.ga K C)) ∧ Binds K fd ps []
  met : ∀ C n g, G.met C n = some g → ∃ f fd ps, FnOk P w K mg base (L2.CX P w) k f fd ps (spOf K ps.length g) ∧ (∀ ds m, ds.length ≠ ps.length → g ds m = .stuck) ∧ Meth K (He.ga K C) n f ∧ Cls K (He.ga K C) ∧ Binds K fd ps []
  fld : ∀ C f, G.fld C f = true → Cls K (He.ga K C) ∧ NoAttr K (He.ga K C) f
  blt : ∀ x ∈ bltNames, mg x = none
  exc : ∀ x, G.exc x = true → ExcOk K mg x
  exm : ∀ x y b, G.exm x y = some b → PySem.W.exmOne K (.ref (He.ga K x)) (.ref (He.ga K y)) = some b ∧ mg y = some (.ref (He.ga K y))

theorem lineS : line ≤ sizeLine := by
  rw [sizeLine_eq]
  decide
section
variable {K : PySem.W.Frag} {W : WX} {φ : List Addr} {F H : Hp} {m : Mem} {σ : L2.St}
theorem getL_rep {d : D} {ds : List D} {v : V} (mr : MR K φ F H m) (h : getL m d = some ds) (r : Rep K φ F d v) : ∃ a xs, v = .ref a ∧ H a = some (.lst xs) ∧ RepL K φ F ds xs := by
  cases r with
  | lst h1 h2 =>
    cases h
    exact ⟨_, _, rfl, mr.ext _ _ h1, h2⟩
  | @ptr a n hn =>
    simp only [getL] at h
    cases e : m[n]? with
    | none => rw [e] at h; cases h
    | some c =>
      rw [e] at h
      cases c with
      | lst xs =>
        cases h
        obtain ⟨_, ys, h1, h2⟩ := mr.cell n a _ hn e
        exact ⟨a, ys, rfl, h1, h2⟩
      | _ => cases h
  | _ => cases h
theorem getK_rep {d : D} {ds : List (Key × D)} {v : V} (mr : MR K φ F H m) (h : getK m d = some ds) (r : Rep K φ F d v) : ∃ a xs, v = .ref a ∧ H a = some (.dK xs) ∧ RepK K φ F ds xs := by
  cases r with
  | dic h1 h2 =>
    cases h
    exact ⟨_, _, rfl, mr.ext _ _ h1, h2⟩
  | @ptr a n hn =>
    simp only [getK] at h
    cases e : m[n]? with
    | none => rw [e] at h; cases h
    | some c =>
      rw [e] at h
      cases c with
      | dct xs =>
        cases h
        obtain ⟨_, ys, h1, h2⟩ := mr.cell n a _ hn e
        exact ⟨a, ys, rfl, h1, h2⟩
      | _ => cases h
  | _ => cases h
theorem kD_rep {d : D} {k : Key} {v : V} (h : kD d = some k) (r : Rep K φ F d v) : v = kV k := by
  cases r with
  | int i => cases h; rfl
  | str s => cases h; rfl
  | _ => cases h
/-- a new frozen object is the answer -/
theorem Pst.froz {d : D} {o : HO} [NTC o] {p : Addr} {Q : VK} (h : Pst K W (RD K) σ φ F H (.ok d m) Q) (mr : MR K φ F H m) (hp : H p = none) (r : Rep K φ (upd F p o) d (.ref p)) : Q (.ref p) (upd H p o) := by
  obtain ⟨m1, s1⟩ := mr.freeze (o := o) hp
  exact h _ _ _ _ s1 m1 r
theorem sub_upd {p : Addr} {o : HO} (mr : MR K φ F H m) (hp : H p = none) : Sub F (upd F p o) := Sub.new (by
  cases e : F p with
  | none => rfl
  | some u => rw [mr.ext _ _ e] at hp; cases hp)
theorem Pst.frozT {ds : List D} {xs : List V} {p : Addr} {Q : VK} (h : Pst K W (RD K) σ φ F H (.ok (.tup ds) m) Q) (mr : MR K φ F H m) (hp : H p = none) (r : RepL K φ F ds xs) : Q (.ref p) (upd H p (.tup xs)) :=
  h.froz mr hp (.tup upd_same (r.mono Pre.refl (sub_upd mr hp)))
theorem Pst.frozL {ds : List D} {xs : List V} {p : Addr} {Q : VK} (h : Pst K W (RD K) σ φ F H (.ok (.lst ds) m) Q) (mr : MR K φ F H m) (hp : H p = none) (r : RepL K φ F ds xs) : Q (.ref p) (upd H p (.lst xs)) :=
  h.froz mr hp (.lst upd_same (r.mono Pre.refl (sub_upd mr hp)))
theorem Pst.newL {mu : Bool} {ds : List D} {xs : List V} {p : Addr} {Q : VK} (h : Pst K W (RD K) σ φ F H (newL mu ds m) Q) (mr : MR K φ F H m) (hp : H p = none) (r : RepL K φ F ds xs) : Q (.ref p) (upd H p (.lst xs)) := by
  cases mu with
  | false => exact Pst.frozL h mr hp r
  | true =>
    obtain ⟨m1, s1⟩ := mr.push (o := .lst xs) (c := .lst ds) hp ⟨xs, upd_same, r.mono ⟨[p], rfl⟩ Sub.refl⟩
    refine h _ _ _ _ s1 m1 (.ptr ?_)
    rw [← mr.len, List.getElem?_append_right (Nat.le_refl _)]
    simp
theorem Pst.newK {mu : Bool} {ds : List (Key × D)} {xs : List (Key × V)} {p : Addr} {Q : VK} (h : Pst K W (RD K) σ φ F H (newK mu ds m) Q) (mr : MR K φ F H m) (hp : H p = none) (r : RepK K φ F ds xs) : Q (.ref p) (upd H p (.dK xs)) := by
  cases mu with
  | false => exact Pst.froz h mr hp (.dic upd_same (r.mono Pre.refl (sub_upd mr hp)))
  | true =>
    obtain ⟨m1, s1⟩ := mr.push (o := .dK xs) (c := .dct ds) hp ⟨xs, upd_same, r.mono ⟨[p], rfl⟩ Sub.refl⟩
    refine h _ _ _ _ s1 m1 (.ptr ?_)
    rw [← mr.len, List.getElem?_append_right (Nat.le_refl _)]
    simp
end

/-! ### operators -/
def R2of (K : PySem.W.Frag) (W : WX) (f : D → D → Mem → Res D) : R2 := fun v w H Q => ∃ σ φ F m x y, MR K φ F H m ∧ Rep K φ F x v ∧ Rep K φ F y w ∧ Pst K W (RD K) σ φ F H (f x y m) Q
section
variable {X : Cx} {W : WX}
theorem line_le {n : Nat} (h : n ≤ line) : n ≤ sizeLine := Nat.le_trans h lineS
theorem line_lt {n : Nat} (h : n < line) : n < sizeLine := Nat.lt_of_lt_of_le h lineS
theorem op_bin (o : Operator) : OpR X (binaryOp o) (R2of X.K W (binD o)) := by
  intro pins s σ H v w vv ww Q I rv rw ⟨σ', φ, F, m, x, y, mr, rx, ry, h⟩
  unfold binD at h
  split at h
  · cases rx; cases ry
    exact op_add pins s σ H _ _ vv ww Q I rv rw ⟨_, _, rfl, rfl, h.okQ mr (.int _)⟩
  · cases rx; cases ry
    exact op_sub pins s σ H _ _ vv ww Q I rv rw ⟨_, _, rfl, rfl, h.okQ mr (.int _)⟩
  · rename_i i j
    split at h
    · rename_i hm
      cases rx; cases ry
      refine op_mul pins s σ H _ _ vv ww Q I rv rw ⟨_, _, rfl, rfl, ?_, h.okQ mr (.int _)⟩
      unfold mulOk at hm
      simpa [CMul] using hm
    · exact h.elim
  · split at h
    · rename_i hm
      cases rx; cases ry
      exact op_fdiv pins s σ H _ _ vv ww Q I rv rw ⟨_, _, rfl, rfl, hm, h.okQ mr (.int _)⟩
    · exact h.elim
  · split at h
    · rename_i hm
      cases rx; cases ry
      exact op_mod pins s σ H _ _ vv ww Q I rv rw ⟨_, _, rfl, rfl, hm, h.okQ mr (.int _)⟩
    · exact h.elim
  · split at h
    · rename_i hm
      cases rx; cases ry
      exact op_pow pins s σ H _ _ vv ww Q I rv rw ⟨_, _, rfl, rfl, hm, h.okQ mr (.int _)⟩
    · exact h.elim
  · split at h
    · rename_i hm
      cases rx; cases ry
      exact op_add_str pins s σ H _ _ vv ww Q I rv rw ⟨_, _, rfl, rfl, line_le hm, h.okQ mr (.str _)⟩
    · exact h.elim
  · split at h
    · rename_i a b hm
      cases rx with
      | tup h1 r1 =>
        cases ry with
        | tup h2 r2 =>
          refine op_catA pins s σ H _ _ vv ww Q I rv rw ⟨_, _, _, _, rfl, rfl, SqT.of (mr.ext _ _ h1), SqT.of (mr.ext _ _ h2), by rw [r1.len, r2.len]; exact line_le hm, fun e => ?_, fun _ e => ?_, fun _ _ p hp => ?_⟩
          · subst e
            cases r1
            exact h.okQ mr (.tup h2 r2)
          · subst e
            cases r2
            rw [List.append_nil] at h
            exact h.okQ mr (.tup h1 r1)
          · exact h.frozT mr hp (r1.append r2)
    · exact h.elim
  · split at h
    · rename_i a k hm
      cases rx with
      | tup h1 r1 =>
        cases ry
        refine op_repM pins s σ H _ _ vv ww Q I rv rw ⟨_, _, _, rfl, rfl, SqT.of (mr.ext _ _ h1), ?_, hm.2.1, hm.2.2.1, by rw [r1.len]; exact hm.2.2.2, fun e => ?_, fun p hp => h.frozT mr hp (r1.rep _)⟩
        · intro e
          subst e
          cases r1
          exact hm.1 rfl
        · subst e
          have e1 : (List.replicate (1 : Int).toNat a).flatten = a := by simp
          rw [e1] at h
          exact h.okQ mr (.tup h1 r1)
    · exact h.elim
  · split at h
    · rename_i xs ys e1 e2
      split at h
      · rename_i hm
        obtain ⟨a, us, rfl, h1, r1⟩ := getL_rep mr e1 rx
        obtain ⟨b, ws, rfl, h2, r2⟩ := getL_rep mr e2 ry
        exact op_cat pins s σ H _ _ vv ww Q I rv rw ⟨_, _, _, _, rfl, rfl, h1, h2, by rw [r1.len, r2.len]; exact line_le hm, fun p hp => h.frozL mr hp (r1.append r2)⟩
      · exact h.elim
    · exact h.elim
  · split at h
    · rename_i xs e1
      split at h
      · rename_i hm
        obtain ⟨a, us, rfl, h1, r1⟩ := getL_rep mr e1 rx
        cases ry
        refine op_rep pins s σ H _ _ vv ww Q I rv rw ⟨_, _, _, rfl, rfl, h1, by omega, by omega, ?_, fun p hp => h.frozL mr hp (r1.rep _)⟩
        rw [r1.len, sizeLine_eq]
        exact Nat.le_trans (Nat.mul_le_mul hm.2.2 (Int.toNat_le.mpr hm.2.1)) (by decide)
      · exact h.elim
    · exact h.elim
  · exact h.elim
theorem op_addM : OpR X (binaryOp .Add) (R2of X.K W (x2D .addM)) := by
  intro pins s σ H v w vv ww Q I rv rw ⟨σ', φ, F, m, x, y, mr, rx, ry, h⟩
  unfold x2D at h
  simp only at h
  split at h
  · rename_i xs ys e1 e2
    split at h
    · rename_i hm
      obtain ⟨a, us, rfl, h1, r1⟩ := getL_rep mr e1 rx
      obtain ⟨b, ws, rfl, h2, r2⟩ := getL_rep mr e2 ry
      exact op_cat pins s σ H _ _ vv ww Q I rv rw ⟨_, _, _, _, rfl, rfl, h1, h2, by rw [r1.len, r2.len]; exact line_le hm, fun p hp => h.newL mr hp (r1.append r2)⟩
    · exact h.elim
  · exact h.elim
theorem op_mulM : OpR X (binaryOp .Mult) (R2of X.K W (x2D .mulM)) := by
  intro pins s σ H v w vv ww Q I rv rw ⟨σ', φ, F, m, x, y, mr, rx, ry, h⟩
  unfold x2D at h
  simp only at h
  split at h
  · rename_i xs k e1
    split at h
    · rename_i hm
      obtain ⟨a, us, rfl, h1, r1⟩ := getL_rep mr e1 rx
      cases ry
      refine op_rep pins s σ H _ _ vv ww Q I rv rw ⟨_, _, _, rfl, rfl, h1, by omega, by omega, ?_, fun p hp => h.newL mr hp (r1.rep _)⟩
      rw [r1.len, sizeLine_eq]
      exact Nat.le_trans (Nat.mul_le_mul hm.2.2 (Int.toNat_le.mpr hm.2.1)) (by decide)
    · exact h.elim
  · exact h.elim
/-! ### comparisons -/
theorem dp_of {K : PySem.W.Frag} {φ : List Addr} {F H : Hp} {m : Mem} (mr : MR K φ F H m) :
    (∀ {d : D} {v : V}, Rep K φ F d v → ∀ {z : PyData}, d.py? = some z → Dp K H v z) ∧ (∀ {ds : List D} {vs : List V}, RepL K φ F ds vs → ∀ {zs : List PyData}, D.pys? ds = some zs → DpAll K H vs zs) := by
  have key : ∀ n : Nat, (∀ (d : D) (v : V), sizeOf d < n → Rep K φ F d v → ∀ (z : PyData), d.py? = some z → Dp K H v z) ∧ (∀ (ds : List D) (vs : List V), sizeOf ds < n → RepL K φ F ds vs → ∀ (zs : List PyData), D.pys? ds = some zs → DpAll K H vs zs) := by
    intro n
    induction n with
    | zero => exact ⟨fun d v h => absurd h (Nat.not_lt_zero _), fun d v h => absurd h (Nat.not_lt_zero _)⟩
    | succ n ih =>
      refine ⟨fun d v hs r z e => ?_, fun ds vs hs r zs e => ?_⟩
      · cases r with
        | non => simp only [D.py?] at e; cases e; exact .non
        | bl b => simp only [D.py?] at e; cases e; exact .bl b
        | int b => simp only [D.py?] at e; cases e; exact .int b
        | str b => simp only [D.py?] at e; cases e; exact .str b
        | @tup a ds xs h1 h2 =>
          simp only [D.py?] at e
          obtain ⟨ys, e1, rfl⟩ := Option.map_eq_some_iff.mp e
          exact .tup (SqT.of (mr.ext _ _ h1)) (ih.2 ds xs (by simp at hs; omega) h2 ys e1)
        | @lst a ds xs h1 h2 =>
          simp only [D.py?] at e
          obtain ⟨ys, e1, rfl⟩ := Option.map_eq_some_iff.mp e
          exact .lst (SqL.of (mr.ext _ _ h1)) (ih.2 ds xs (by simp at hs; omega) h2 ys e1)
        | dic => simp only [D.py?] at e; cases e
        | ptr => simp only [D.py?] at e; cases e
        | inp => simp only [D.py?] at e; cases e
        | gd => simp only [D.py?] at e; cases e
        | exn => simp only [D.py?] at e; cases e
      · cases r with
        | nil => simp only [D.pys?] at e; cases e; exact .nil
        | @cons d v ds vs h1 h2 =>
          simp only [D.pys?] at e
          cases e1 : d.py? with
          | none => rw [e1] at e; simp at e
          | some y =>
            cases e2 : D.pys? ds with
            | none => rw [e1, e2] at e; simp at e
            | some ys =>
              rw [e1, e2] at e
              cases e
              exact .cons (ih.1 d v (by simp at hs; omega) h1 y e1) (ih.2 ds vs (by simp at hs; omega) h2 ys e2)
  exact ⟨fun {d v} r {z} e => (key (sizeOf d + 1)).1 d v (Nat.lt_succ_self _) r z e, fun {d v} r {z} e => (key (sizeOf d + 1)).2 d v (Nat.lt_succ_self _) r z e⟩
theorem pyO_rep {K : PySem.W.Frag} {φ : List Addr} {F H : Hp} {m : Mem} {d : D} {v : V} {z : PyData} (mr : MR K φ F H m) (r : Rep K φ F d v) (h : d.pyO m = some z) : Dp K H v z := by
  cases r with
  | @ptr a n hn =>
    simp only [D.pyO] at h
    cases e : m[n]? with
    | none => rw [e] at h; cases h
    | some c =>
      rw [e] at h
      cases c with
      | lst xs =>
        obtain ⟨ys, e1, rfl⟩ := Option.map_eq_some_iff.mp h
        obtain ⟨_, us, h1, h2⟩ := mr.cell n a _ hn e
        exact .lst (SqL.of h1) ((dp_of mr).2 h2 e1)
      | _ => cases h
  | non => exact (dp_of mr).1 .non h
  | bl b => exact (dp_of mr).1 (.bl b) h
  | int b => exact (dp_of mr).1 (.int b) h
  | str b => exact (dp_of mr).1 (.str b) h
  | tup h1 h2 => exact (dp_of mr).1 (.tup h1 h2) h
  | lst h1 h2 => exact (dp_of mr).1 (.lst h1 h2) h
  | dic h1 h2 => exact (dp_of mr).1 (.dic h1 h2) h
  | inp h1 => exact (dp_of mr).1 (.inp h1) h
  | gd x => exact (dp_of mr).1 (.gd x) h
  | exn h1 => exact (dp_of mr).1 (.exn h1) h
theorem pyT_rep {K : PySem.W.Frag} {φ : List Addr} {F H : Hp} {m : Mem} (mr : MR K φ F H m) : ∀ {ds : List D} {vs : List V} {zs : List PyData}, RepL K φ F ds vs → D.pyT m ds = some zs → DpAll K H vs zs
  | _, _, _, .nil, h => by simp only [D.pyT] at h; cases h; exact .nil
  | d :: ds, _, _, .cons h1 h2, h => by
    simp only [D.pyT] at h
    cases e1 : d.pyO m with
    | none => rw [e1] at h; simp at h
    | some y =>
      cases e2 : D.pyT m ds with
      | none => rw [e1, e2] at h; simp at h
      | some ys =>
        rw [e1, e2] at h
        cases h
        exact .cons (pyO_rep mr h1 e1) (pyT_rep mr h2 e2)
theorem pyM_rep {K : PySem.W.Frag} {φ : List Addr} {F H : Hp} {m : Mem} {d : D} {v : V} {z : PyData} (mr : MR K φ F H m) (r : Rep K φ F d v) (h : d.pyM m = some z) : Dp K H v z := by
  cases r with
  | ptr hn => exact pyO_rep mr (.ptr hn) h
  | non => exact (dp_of mr).1 .non h
  | bl b => exact (dp_of mr).1 (.bl b) h
  | int b => exact (dp_of mr).1 (.int b) h
  | str b => exact (dp_of mr).1 (.str b) h
  | @tup a ds xs h1 h2 =>
    simp only [D.pyM] at h
    cases e : D.pys? ds with
    | some ys =>
      rw [e] at h
      cases h
      exact .tup (SqT.of (mr.ext _ _ h1)) ((dp_of mr).2 h2 e)
    | none =>
      rw [e] at h
      obtain ⟨ys, e1, rfl⟩ := Option.map_eq_some_iff.mp h
      exact .tup (SqT.of (mr.ext _ _ h1)) (pyT_rep mr h2 e1)
  | lst h1 h2 => exact (dp_of mr).1 (.lst h1 h2) h
  | dic h1 h2 => exact (dp_of mr).1 (.dic h1 h2) h
  | inp h1 => exact (dp_of mr).1 (.inp h1) h
  | gd x => exact (dp_of mr).1 (.gd x) h
  | exn h1 => exact (dp_of mr).1 (.exn h1) h
/-- how two values are compared -/
inductive EqW (K : PySem.W.Frag) (H : Hp) (v w : V) (b : Bool) : Prop
  | sc (h : scal v w = true) (e : decide (v = w) = b)
  | py {d e : PyData} (h1 : Dp K H v d) (h2 : Dp K H w e) (h3 : SeqAt.shaped d = true) (h4 : SeqAt.shaped e = true) (h5 : PyData.eqv d e = b)
  | ln {a c : Addr} {xs ys : List V} (e : b = false) (e1 : v = .ref a) (e2 : w = .ref c) (h1 : H a = some (.lst xs)) (h2 : H c = some (.lst ys)) (h : xs.length ≠ ys.length)
  | tp {a c : Addr} {xs ys : List V} (e1 : v = .ref a) (e2 : w = .ref c) (h1 : H a = some (.tup xs)) (h2 : H c = some (.tup ys)) (h : xs = [] ∨ ys = []) (e : b = decide (xs.length = ys.length))
theorem eqP_rep {K : PySem.W.Frag} {φ : List Addr} {F H : Hp} {m : Mem} {x y : D} {v w : V} {b : Bool} (mr : MR K φ F H m) (rx : Rep K φ F x v) (ry : Rep K φ F y w) (h : eqP m x y = some b) : EqW K H v w b := by
  unfold eqP at h
  split at h
  · rename_i d e h1 h2
    split at h
    · rename_i hs
      cases h
      rw [Bool.and_eq_true] at hs
      exact .py (pyM_rep mr rx h1) (pyM_rep mr ry h2) hs.1 hs.2 rfl
    · cases h
  · cases h
theorem emp_len {α β : Type} : ∀ l : List α, l.isEmpty = decide (([] : List β).length = l.length)
  | [] => rfl
  | _ :: _ => by simp
theorem emp_len' {α β : Type} : ∀ l : List α, l.isEmpty = decide (l.length = ([] : List β).length)
  | [] => rfl
  | _ :: _ => by simp
theorem eqM_rep {K : PySem.W.Frag} {φ : List Addr} {F H : Hp} {m : Mem} {x y : D} {v w : V} {b : Bool} (mr : MR K φ F H m) (rx : Rep K φ F x v) (ry : Rep K φ F y w) (h : eqM m x y = some b) : EqW K H v w b := by
  unfold eqM at h
  split at h
  · cases h; cases rx; cases ry
    exact .sc rfl (by simp)
  · cases h; cases rx; cases ry
    exact .sc rfl (by simp)
  · cases h; cases rx; cases ry
    exact .sc rfl (by simp)
  · cases h
    cases rx with
    | tup h1 r1 =>
      cases ry with
      | tup h2 r2 =>
        cases r1
        refine .tp rfl rfl (mr.ext _ _ h1) (mr.ext _ _ h2) (.inl rfl) ?_
        rw [r2.len]
        exact emp_len _
  · cases h
    cases rx with
    | tup h1 r1 =>
      cases ry with
      | tup h2 r2 =>
        cases r2
        refine .tp rfl rfl (mr.ext _ _ h1) (mr.ext _ _ h2) (.inr rfl) ?_
        rw [r1.len]
        exact emp_len' _
  · split at h
    · rename_i hl
      cases h
      unfold lenNe at hl
      split at hl
      · rename_i xs ys h1 h2
        obtain ⟨a, vs, rfl, q1, r1⟩ := getL_rep mr h1 rx
        obtain ⟨c, ws, rfl, q2, r2⟩ := getL_rep mr h2 ry
        exact .ln rfl rfl rfl q1 q2 (by rw [r1.len, r2.len]; exact of_decide_eq_true hl)
      · cases hl
    · exact eqP_rep mr rx ry h
theorem len_of {X : Cx} {pins : List (Addr × Obj)} {σ : L2.St} {H : Hp} {s : Shared} {a c : Addr} {xs ys : List V} (I : Inv X pins σ H s) (h1 : H a = some (.lst xs)) (h2 : H c = some (.lst ys)) (hl : xs.length ≠ ys.length) :
    ∃ its its2 : Array Value, s.heap.IsList a its ∧ s.heap.IsList c its2 ∧ (its.size != its2.size) = true := by
  obtain ⟨its, r1, p1, _⟩ := I.list (SqL.of h1)
  obtain ⟨its2, r2, p2, _⟩ := I.list (SqL.of h2)
  have l1 := r1.length
  have l2 := r2.length
  refine ⟨_, _, p1.isList, p2.isList, ?_⟩
  simp only [List.size_toArray, bne_iff_ne, ne_eq]
  omega
theorem tup_of {X : Cx} {pins : List (Addr × Obj)} {σ : L2.St} {H : Hp} {s : Shared} {a c : Addr} {xs ys : List V} (I : Inv X pins σ H s) (h1 : H a = some (.tup xs)) (h2 : H c = some (.tup ys)) :
    ∃ its its2 : Array Value, s.heap.IsTuple a its ∧ s.heap.IsTuple c its2 ∧ its.size = xs.length ∧ its2.size = ys.length := by
  obtain ⟨its, r1, p1, _⟩ := I.tuple (SqT.of h1)
  obtain ⟨its2, r2, p2, _⟩ := I.tuple (SqT.of h2)
  exact ⟨_, _, p1, p2, by rw [List.size_toArray, r1.length], by rw [List.size_toArray, r2.length]⟩
theorem tup_emp {n k : Nat} {xs ys : List V} (l1 : n = xs.length) (l2 : k = ys.length) (h : xs = [] ∨ ys = []) : ((List.range (min n k)).all (fun _ => true) && n == k) = decide (xs.length = ys.length) := by
  subst l1 l2
  rcases h with h | h
  · subst h
    cases ys <;> simp
  · subst h
    cases xs <;> simp
theorem hasK_rep {K : PySem.W.Frag} {φ : List Addr} {F : Hp} (k : Key) : ∀ {ds : List (Key × D)} {vs : List (Key × V)}, RepK K φ F ds vs → (hasK ds k = (valV vs k).isSome) ∧ (∀ d, lookK ds k = some d → ∃ v, valV vs k = some v ∧ Rep K φ F d v) ∧ (lookK ds k = none → valV vs k = none)
  | _, _, .nil => ⟨rfl, fun _ h => by simp [lookK] at h, fun _ => rfl⟩
  | _, _, .cons (k := k') (v := v) (vs := vs) h r => by
    obtain ⟨a, b, c⟩ := hasK_rep k r
    by_cases e : k' = k
    · rw [valV_pos (p := (k', v)) e]
      refine ⟨by simp [hasK, e], fun d hd => ?_, fun hd => ?_⟩
      · simp [lookK, List.find?_cons, e] at hd
        subst hd
        exact ⟨_, rfl, h⟩
      · simp [lookK, List.find?_cons, e] at hd
    · rw [valV_neg (p := (k', v)) e]
      refine ⟨by simp [hasK, e] at a ⊢; exact a, fun d hd => ?_, fun hd => ?_⟩
      · simp only [lookK, List.find?_cons, e, decide_false] at hd
        exact b d hd
      · simp only [lookK, List.find?_cons, e, decide_false] at hd
        exact c hd
theorem putD_rep {K : PySem.W.Frag} {φ : List Addr} {F : Hp} {k : Key} {d : D} {v : V} (h : Rep K φ F d v) {ds : List (Key × D)} {vs : List (Key × V)} (r : RepK K φ F ds vs) : RepK K φ F (putD ds k d) (putK vs k v) := by
  have hm : ∀ {ds : List (Key × D)} {vs : List (Key × V)}, RepK K φ F ds vs → RepK K φ F (ds.map fun p => if p.1 = k then (p.1, d) else p) (vs.map fun p => if p.1 = k then (p.1, v) else p) := by
    intro ds
    induction ds with
    | nil => intro vs r; cases r; exact .nil
    | cons p ds ih =>
      intro vs r
      cases r with
      | cons h1 h2 =>
        rw [List.map_cons, List.map_cons]
        dsimp only
        split
        · exact .cons h (ih h2)
        · exact .cons h1 (ih h2)
  have hs : ∀ {ds : List (Key × D)} {vs : List (Key × V)}, RepK K φ F ds vs → RepK K φ F (ds ++ [(k, d)]) (vs ++ [(k, v)]) := by
    intro ds
    induction ds with
    | nil => intro vs r; cases r; exact .cons h .nil
    | cons p ds ih =>
      intro vs r
      cases r with
      | cons h1 h2 => exact .cons h1 (ih h2)
  unfold putD putK
  have e : hasK ds k = (vs.any fun kv => decide (kv.1 = k)) := by
    rw [valV_any, (hasK_rep k r).1]
  rw [e]
  split
  · exact hm r
  · exact hs r
theorem RepK.len {K : PySem.W.Frag} {φ : List Addr} {F : Hp} : ∀ {ds : List (Key × D)} {vs : List (Key × V)}, RepK K φ F ds vs → vs.length = ds.length
  | _, _, .nil => rfl
  | _, _, .cons _ r => by simp [RepK.len r]
theorem anyEq_rep {K : PySem.W.Frag} {φ : List Addr} {F H : Hp} {m : Mem} {x : D} {ys : List D} {v : V} {us : List V} {b : Bool} (mr : MR K φ F H m) (rx : Rep K φ F x v) (ry : RepL K φ F ys us) (h : anyEq m x ys = some b) :
    ∃ d ds, Dp K H v d ∧ DpAll K H us ds ∧ SeqAt.shaped d = true ∧ SeqAt.shaped (.list ds) = true ∧ (ds.any fun z => PyData.eqv z d) = b := by
  unfold anyEq at h
  split at h
  · rename_i d e h1 h2
    split at h
    · rename_i hs
      cases h
      rw [Bool.and_eq_true] at hs
      exact ⟨d, e, pyM_rep mr rx h1, (dp_of mr).2 ry h2, hs.1, hs.2, rfl⟩
    · cases h
  · cases h
theorem rep_non {K : PySem.W.Frag} {φ : List Addr} {F : Hp} {d : D} {v : V} (r : Rep K φ F d v) : decide (v = .non) = (match d with | .non => true | _ => false) := by
  cases r <;> rfl
theorem one_sign {c : Str} (h : c.length = 1) : c = ⟨#[c.cps.getD 0 0]⟩ := by
  obtain ⟨⟨l⟩⟩ := c
  cases l with
  | nil => cases h
  | cons a l =>
    cases l with
    | nil => rfl
    | cons b l => exact absurd h (by simp [Str.length])
theorem inD_rep {P : Program} {w : World} {K : PySem.W.Frag} {mg : Str → Option Value} {base : Heap} {k : Nat} {G : Gx} (g : GOk P w K mg base k G) {φ : List Addr} {F H : Hp} {m : Mem} {x y : D} {v u : V} {b : Bool}
    (mr : MR K φ F H m) (rx : Rep K φ F x v) (ry : Rep K φ F y u) (h : inD G x y m = some b) :
    (∃ a xs d ds, u = .ref a ∧ (H a = some (.lst xs) ∨ H a = some (.tup xs)) ∧ Dp K H v d ∧ DpAll K H xs ds ∧ SeqAt.shaped d = true ∧ SeqAt.shaped (.list ds) = true ∧ (ds.any fun z => PyData.eqv z d) = b) ∨
    (∃ c z, v = .str ⟨#[c]⟩ ∧ u = .str z ∧ decide (c ∈ z.cps.toList) = b) ∨ (∃ d es n z r, KDict K w d es n ∧ v = .str z ∧ u = .ref d ∧ PySem.W.nsIn K d z = some r ∧ r.isSome = b) ∨
    (∃ a o, u = .ref a ∧ DGet H a v o ∧ o.isSome = b) := by
  unfold inD at h
  split at h
  · rename_i ys
    cases ry with
    | tup h1 r1 =>
      obtain ⟨d, ds, h2⟩ := anyEq_rep mr rx r1 h
      exact .inl ⟨_, _, d, ds, rfl, .inr (mr.ext _ _ h1), h2⟩
  · rename_i z
    cases ry
    split at h
    · rename_i c
      split at h
      · rename_i hc
        cases h
        cases rx
        exact .inr (.inl ⟨_, z, congrArg V.str (one_sign hc), rfl, rfl⟩)
      · cases h
    · cases h
  · rename_i n
    cases ry
    split at h
    · rename_i kvs z hk
      cases h
      cases rx
      obtain ⟨es, n', kd, q⟩ := g.dcs _ _ hk
      obtain ⟨r, h1, h2⟩ := q z
      refine .inr (.inr (.inl ⟨_, es, n', z, r, kd, rfl, rfl, h1, ?_⟩))
      cases e : kvs.lookup z with
      | none =>
        rw [e] at h2
        have h2 : r = none := h2
        rw [h2]
        rfl
      | some d =>
        rw [e] at h2
        obtain ⟨u, v, h3, _⟩ := h2
        rw [h3]
        rfl
    · cases h
  · split at h
    · rename_i ys h1
      obtain ⟨a, xs, rfl, h2, r2⟩ := getL_rep mr h1 ry
      obtain ⟨d, ds, h3⟩ := anyEq_rep mr rx r2 h
      exact .inl ⟨_, _, d, ds, rfl, .inl h2, h3⟩
    · split at h
      · rename_i kvs k1 h1 h2
        cases h
        obtain ⟨a, xs, rfl, h3, r3⟩ := getK_rep mr h1 ry
        have e := kD_rep h2 rx
        subst e
        exact .inr (.inr (.inr ⟨a, _, rfl, DGet.k h3, (hasK_rep k1 r3).1.symm⟩))
      · cases h
theorem op_inA (hu : X.A.units + 65 < cLine) (neg : Bool) : OpR X (compareOp (if neg then .NotIn else .In)) (fun x y H Q => ∃ a xs d ds, y = .ref a ∧ (H a = some (.lst xs) ∨ H a = some (.tup xs)) ∧ Dp X.K H x d ∧ DpAll X.K H xs ds ∧
    SeqAt.shaped d = true ∧ SeqAt.shaped (.list ds) = true ∧ Q (.bl (if neg then !(ds.any fun z => PyData.eqv z d) else ds.any fun z => PyData.eqv z d)) H) := by
  intro pins s σ H x y v u Q I rx ry h
  obtain ⟨a, xs, d, ds, rfl, ha, hd, he, sd, se, q⟩ := h
  obtain ⟨as, r1⟩ := Dp.reads I d x v hd rx
  have cl : PyData.canLayAll0 ds = true := SeqAt.canLay_of_shaped se
  have cd := SeqAt.canLay_of_shaped sd
  have ru : X.A.units + 1 + min (PyData.depthAll ds) d.depth < cLine := PyProof.Rows.room_in_shaped sd hu
  rcases ha with ha | ha
  · obtain ⟨bs, r2⟩ := Dp.reads I (.list ds) (.ref a) u (.lst (SqL.of ha) he) ry
    cases neg with
    | false => exact SeqAt.in_list_reads r2 r1 cl cd ru ⟨.bl _, H, I, rfl, q⟩
    | true => exact SeqAt.notIn_list_reads r2 r1 cl cd ru ⟨.bl _, H, I, rfl, q⟩
  · obtain ⟨bs, r2⟩ := Dp.reads I (.tuple ds) (.ref a) u (.tup (SqT.of ha) he) ry
    cases neg with
    | false => exact SeqAt.in_tuple_reads r2 r1 cl cd ru ⟨.bl _, H, I, rfl, q⟩
    | true => exact SeqAt.notIn_tuple_reads r2 r1 cl cd ru ⟨.bl _, H, I, rfl, q⟩
theorem op_cmp {G : Gx} {k : Nat} (g : GOk X.prog X.w X.K X.mg X.base k G) (hu : X.A.units + 65 < cLine) (o : CmpOp) : OpR X (compareOp o) (R2of X.K W (cmpD G o)) := by
  intro pins s σ H v w vv ww Q I rv rw ⟨σ', φ, F, m, x, y, mr, rx, ry, h⟩
  unfold cmpD at h
  split at h
  · obtain ⟨a, e, h⟩ := h.retO
    obtain ⟨b, e1, rfl⟩ := Option.map_eq_some_iff.mp e
    cases eqM_rep mr rx ry e1 with
    | sc h1 h2 => exact op_eq pins s σ H _ _ vv ww Q I rv rw ⟨h1, by rw [h2]; exact h.okQ mr (.bl _)⟩
    | py h1 h2 h3 h4 h5 => exact op_eqD (by omega) pins s σ H _ _ vv ww Q I rv rw ⟨_, _, h1, h2, h3, h4, by rw [h5]; exact h.okQ mr (.bl _)⟩
    | ln q0 q1 q2 h1 h2 h3 =>
      subst q1 q2 q0
      cases rv
      cases rw
      obtain ⟨its, its2, p1, p2, p3⟩ := len_of I h1 h2 h3
      exact SeqAt.RcAt.lists_lengths p1 p2 p3 (by omega) X.prog X.w _ _ ⟨.bl false, H, I, rfl, h.okQ mr (.bl _)⟩
    | tp q1 q2 h1 h2 h3 q0 =>
      subst q1 q2 q0
      cases rv
      cases rw
      obtain ⟨its, its2, p1, p2, l1, l2⟩ := tup_of I h1 h2
      refine SeqAt.RcAt.tuples (e := fun _ => true) p1 p2 (by omega) (fun j k1 k2 => ?_) X.prog X.w _ _ ?_
      · rcases h3 with z | z
        · rw [z, List.length_nil] at l1; omega
        · rw [z, List.length_nil] at l2; omega
      · rw [tup_emp l1 l2 h3]
        exact ⟨.bl _, H, I, rfl, h.okQ mr (.bl _)⟩
  · obtain ⟨a, e, h⟩ := h.retO
    obtain ⟨b, e1, rfl⟩ := Option.map_eq_some_iff.mp e
    cases eqM_rep mr rx ry e1 with
    | sc h1 h2 => exact op_ne pins s σ H _ _ vv ww Q I rv rw ⟨h1, by rw [h2]; exact h.okQ mr (.bl _)⟩
    | py h1 h2 h3 h4 h5 => exact op_neD (by omega) pins s σ H _ _ vv ww Q I rv rw ⟨_, _, h1, h2, h3, h4, by rw [h5]; exact h.okQ mr (.bl _)⟩
    | ln q0 q1 q2 h1 h2 h3 =>
      subst q1 q2 q0
      cases rv
      cases rw
      obtain ⟨its, its2, p1, p2, p3⟩ := len_of I h1 h2 h3
      exact SeqAt.RcNeAt.lists_lengths p1 p2 p3 (by omega) X.prog X.w _ _ ⟨.bl true, H, I, rfl, h.okQ mr (.bl _)⟩
    | tp q1 q2 h1 h2 h3 q0 =>
      subst q1 q2 q0
      cases rv
      cases rw
      obtain ⟨its, its2, p1, p2, l1, l2⟩ := tup_of I h1 h2
      refine SeqAt.RcNeAt.tuples (e := fun _ => true) p1 p2 (by omega) (fun j k1 k2 => ?_) X.prog X.w _ _ ?_
      · rcases h3 with z | z
        · rw [z, List.length_nil] at l1; omega
        · rw [z, List.length_nil] at l2; omega
      · rw [tup_emp l1 l2 h3]
        exact ⟨.bl _, H, I, rfl, h.okQ mr (.bl _)⟩
  · obtain ⟨a, e, h⟩ := h.retO
    obtain ⟨b, e1, rfl⟩ := Option.map_eq_some_iff.mp e
    rcases inD_rep g mr rx ry e1 with ⟨a, xs, d, ds, h1, h2, h3, h4, h5, h6, h7⟩ | ⟨c, z, h1, h2, h3⟩ | ⟨d, es, n, z, r, kd, h1, h2, h3, h4⟩ | ⟨a, oo, h1, h2, h3⟩
    · exact op_inA hu false pins s σ H _ _ vv ww Q I rv rw ⟨a, xs, d, ds, h1, h2, h3, h4, h5, h6, by rw [if_neg (by decide), h7]; exact h.okQ mr (.bl _)⟩
    · exact op_in_sign pins s σ H _ _ vv ww Q I rv rw ⟨c, z, h1, h2, by rw [h3]; exact h.okQ mr (.bl _)⟩
    · exact op_in_kd kd pins s σ H _ _ vv ww Q I rv rw ⟨z, r, h1, h2, h3, by rw [h4]; exact h.okQ mr (.bl _)⟩
    · subst h1
      cases rw
      exact d_in (by omega) I h2 rv fun s3 I3 => ⟨.bl oo.isSome, H, I3, rfl, by rw [h3]; exact h.okQ mr (.bl _)⟩
  · obtain ⟨a, e, h⟩ := h.retO
    obtain ⟨b, e1, rfl⟩ := Option.map_eq_some_iff.mp e
    rcases inD_rep g mr rx ry e1 with ⟨a, xs, d, ds, h1, h2, h3, h4, h5, h6, h7⟩ | ⟨c, z, h1, h2, h3⟩ | ⟨d, es, n, z, r, kd, h1, h2, h3, h4⟩ | ⟨a, oo, h1, h2, h3⟩
    · exact op_inA hu true pins s σ H _ _ vv ww Q I rv rw ⟨a, xs, d, ds, h1, h2, h3, h4, h5, h6, by rw [if_pos rfl, h7]; exact h.okQ mr (.bl _)⟩
    · exact op_notIn_sign pins s σ H _ _ vv ww Q I rv rw ⟨c, z, h1, h2, by rw [h3]; exact h.okQ mr (.bl _)⟩
    · exact op_notIn_kd kd pins s σ H _ _ vv ww Q I rv rw ⟨z, r, h1, h2, h3, by rw [h4]; exact h.okQ mr (.bl _)⟩
    · subst h1
      cases rw
      exact d_notIn (by omega) I h2 rv fun s3 I3 => ⟨.bl (!oo.isSome), H, I3, rfl, by rw [h3]; exact h.okQ mr (.bl _)⟩
  · split at h
    · cases rx; cases ry
      exact op_isN pins s σ H _ _ vv ww Q I rv rw ⟨rfl, h.okQ mr (.bl _)⟩
    · rename_i hx
      cases ry
      refine op_isN pins s σ H _ _ vv ww Q I rv rw ⟨rfl, ?_⟩
      have e : decide (v = .non) = false := by
        rw [rep_non rx]
        cases x <;> first | rfl | exact (hx rfl rfl).elim | exact (hx rfl).elim
      rw [e]
      exact h.okQ mr (.bl _)
    · exact h.elim
  · split at h
    · cases rx; cases ry
      exact op_notN pins s σ H _ _ vv ww Q I rv rw ⟨rfl, h.okQ mr (.bl _)⟩
    · rename_i hx
      cases ry
      refine op_notN pins s σ H _ _ vv ww Q I rv rw ⟨rfl, ?_⟩
      have e : decide (v = .non) = false := by
        rw [rep_non rx]
        cases x <;> first | rfl | exact (hx rfl rfl).elim | exact (hx rfl).elim
      rw [e]
      exact h.okQ mr (.bl _)
    · exact h.elim
  · split at h
    · cases rx; cases ry
      exact op_lt pins s σ H _ _ vv ww Q I rv rw ⟨_, _, rfl, rfl, h.okQ mr (.bl _)⟩
    · exact h.elim
  · split at h
    · cases rx; cases ry
      exact op_le pins s σ H _ _ vv ww Q I rv rw ⟨_, _, rfl, rfl, h.okQ mr (.bl _)⟩
    · exact h.elim
  · split at h
    · cases rx; cases ry
      exact op_gt pins s σ H _ _ vv ww Q I rv rw ⟨_, _, rfl, rfl, h.okQ mr (.bl _)⟩
    · exact h.elim
  · split at h
    · cases rx; cases ry
      exact op_ge pins s σ H _ _ vv ww Q I rv rw ⟨_, _, rfl, rfl, h.okQ mr (.bl _)⟩
    · exact h.elim

/-! ### subscripts, slices -/
theorem atI_rep {K : PySem.W.Frag} {φ : List Addr} {F : Hp} {ds : List D} {vs : List V} {i : Int} {d : D} (r : RepL K φ F ds vs) (h : atI ds i = some d) : ∃ v, atI vs i = some v ∧ Rep K φ F d v := by
  unfold atI at h ⊢
  rw [r.len]
  cases e : ixN ds.length i with
  | none => rw [e] at h; cases h
  | some j =>
    rw [e] at h
    exact r.get h
theorem ix_all {G : Gx} {k : Nat} (g : GOk X.prog X.w X.K X.mg X.base k G) (hu : X.A.units + 65 < cLine) : IxR X (R2of X.K W (idxD G)) := by
  intro value slice pins s σ H v w vv ww Q I rv rw h hs
  obtain ⟨σ', φ, F, m, x, y, mr, rx, ry, h⟩ := h
  unfold idxD at h
  split at h
  · obtain ⟨d, e, h⟩ := h.retO
    cases ry
    cases rx with
    | tup h1 r1 =>
      obtain ⟨z, h2, r2⟩ := atI_rep r1 e
      exact ix_tup value slice pins s σ H _ _ vv ww Q I rv rw ⟨_, _, _, z, rfl, rfl, SqT.of (mr.ext _ _ h1), h2, h.okQ mr r2⟩ hs
  · split at h
    · rename_i hl
      obtain ⟨d, e, h⟩ := h.retO
      obtain ⟨c, e1, rfl⟩ := Option.map_eq_some_iff.mp e
      cases rx; cases ry
      exact ix_str value slice pins s σ H _ _ vv ww Q I rv rw ⟨_, _, c, rfl, rfl, line_le hl, e1, h.okQ mr (.str _)⟩ hs
    · exact h.elim
  · split at h
    · rename_i n z _ kvs hk
      obtain ⟨d, e, h⟩ := h.retO
      cases rx; cases ry
      obtain ⟨es, n', kd, q⟩ := g.dcs _ _ hk
      obtain ⟨r, h1, h2⟩ := q z
      rw [e] at h2
      obtain ⟨u0, v0, h3, h4, h5⟩ := h2
      subst h3
      have go := op_item_kd kd pins s σ H _ _ vv ww Q I rv rw ⟨z, u0, v0, rfl, rfl, h1, h4, h.okQ mr (h5 _ _)⟩
      have ty := kd_type kd I
      cases rv
      exact PyProof.Rows.tail_any ty PySem.F.slot_dict_getitem.lookup go hs
    · exact h.elim
  · split at h
    · rename_i xs i h1 _ _ _
      obtain ⟨d, e, h⟩ := h.retO
      cases ry
      obtain ⟨a, us, rfl, h2, r2⟩ := getL_rep mr h1 rx
      obtain ⟨z, h3, r3⟩ := atI_rep r2 e
      exact ix_list value slice pins s σ H _ _ vv ww Q I rv rw ⟨_, _, _, z, rfl, rfl, SqL.of h2, h3, h.okQ mr r3⟩ hs
    · split at h
      · rename_i kvs kk h1 h2
        obtain ⟨d, e, h⟩ := h.retO
        obtain ⟨a, us, rfl, h3, r3⟩ := getK_rep mr h1 rx
        have ey := kD_rep h2 ry
        subst ey
        obtain ⟨z, h4, r4⟩ := (hasK_rep kk r3).2.1 d e
        have dg : DGet H a (kV kk) (some z) := by rw [← h4]; exact DGet.k h3
        cases rv
        exact PyProof.Rows.tail_any (dict_typeIs I dg) PySem.F.slot_dict_getitem.lookup (d_getItem (by omega) I dg rw fun w' s3 I3 rw' => ⟨z, H, I3, rw', h.okQ mr r4⟩) hs
      · exact h.elim
def SLof (K : PySem.W.Frag) (W : WX) : V → Option Int → Option Int → Hp → VK → Prop := fun v lo hi H Q => ∃ σ φ F m x, MR K φ F H m ∧ Rep K φ F x v ∧ Pst K W (RD K) σ φ F H (sliD x lo hi m) Q
theorem cut_whole {ds : List D} {lo hi : Option Int} (h : HT.sIx ds.length 0 lo = 0 ∧ HT.sIx ds.length ds.length hi = ds.length) : cutD ds lo hi = ds := by
  unfold cutD
  rw [h.1, h.2]
  simp
theorem sl_all : SlR X (SLof X.K W) := by
  intro pins s σ H v vv vl vu lo hi sl Q I rv hs pl pu ⟨σ', φ, F, m, x, mr, rx, h⟩
  unfold sliD at h
  split at h
  · cases rx with
    | tup h1 r1 =>
      refine sl_tupA pins s σ H _ vv vl vu lo hi sl Q I rv hs pl pu ⟨_, _, rfl, SqT.of (mr.ext _ _ h1), fun e => ?_, fun _ p hp => h.frozT mr hp (r1.cut lo hi)⟩
      rw [r1.len] at e
      rw [cut_whole e] at h
      exact h.okQ mr (.tup h1 r1)
  · split at h
    · rename_i hl
      cases rx
      exact sl_str pins s σ H _ vv vl vu lo hi sl Q I rv hs pl pu ⟨_, rfl, line_le hl, h.okQ mr (.str _)⟩
    · exact h.elim
  · split at h
    · rename_i xs h1
      obtain ⟨a, us, rfl, h2, r2⟩ := getL_rep mr h1 rx
      exact sl_list pins s σ H _ vv vl vu lo hi sl Q I rv hs pl pu ⟨_, _, rfl, SqL.of h2, fun p hp => h.frozL mr hp (r2.cut lo hi)⟩
    · exact h.elim
end
end Mi

set_option Elab.async false
set_option linter.all false
set_option maxRecDepth 100000
set_option maxHeartbeats 4000000
/-! MiOps2: calls of built-ins, methods. -/
namespace L2
open PySem PySem.Spec PyProof.Rows
section
variable {X : Cx}
def rCntF (K : PySem.W.Frag) : V → List V → Hp → VK → Prop := fun x xs H Q => ∃ (a : Addr) (ys : List V) (y : V), x = V.ref a ∧ xs = [y] ∧ SqL K H a ys ∧ flatV y = true ∧ ys.all flatV = true ∧ Q (.int (ys.countP (fun z => eqV z y) : Nat)) H
theorem countP_U {y : V} : ∀ {ys : List V} {its : List Value}, Vals ys its → ys.all flatV = true → its.countP (eqU y) = ys.countP (fun z => eqV z y)
  | _, _, .nil, _ => rfl
  | _, _, .cons r rs, f => by
    rw [List.all_cons, Bool.and_eq_true] at f
    rw [List.countP_cons, List.countP_cons, countP_U rs f.2, eqU_of r f.1]
theorem mt_countF : MtR X "list.count" (rCntF X.K) := by
  intro pins s σ H x xs v us Q I rx rxs h
  obtain ⟨a, ys, y, rfl, rfl, hs, fy, fys, q⟩ := h
  cases rx
  cases rxs with
  | cons ry rt =>
    rename_i uy ut
    cases rt
    obtain ⟨its, rv, ⟨⟨cls, dd, data, sl⟩, n, ho, hc, hdn, hd⟩, hlen⟩ := I.list hs
    simp only at hc hd
    subst hc hd
    refine call_meets PySem.F.slot_list_count ⟨_, ho, rfl⟩ PySem.F.entry_list_count (PySem.F.args_list_count_2 _ _)
      (SeqAt.list_countAt a its.toArray n dd sl uy (eqU y)) ⟨ho, fun u' hu' => mem_eqAt ry fy rv fys u' (by simpa using hu'), ?_⟩
    have ec : its.toArray.toList.countP (eqU y) = ys.countP (fun z => eqV z y) := countP_U rv fys
    refine ⟨.int (ys.countP (fun z => eqV z y) : Nat), H, I.tok _, ⟨s.toks, ?_⟩, q⟩
    show Value.int ((its.toArray.toList.countP (eqU y) : Nat) : Int) s.toks = Value.int ((ys.countP (fun z => eqV z y) : Nat) : Int) s.toks
    rw [ec]
end
end L2
namespace Mi
open PySem L2
variable [WW]
def CVof (K : PySem.W.Frag) (W : WX) (f : List D → Mem → Res D) : List V → Hp → VK → Prop := fun vs H Q => ∃ σ φ F m ds, MR K φ F H m ∧ RepL K φ F ds vs ∧ Pst K W (RD K) σ φ F H (f ds m) Q
def MVof (K : PySem.W.Frag) (W : WX) (n : Me) : V → List V → Hp → VK → Prop := fun x vs H Q => ∃ σ φ F m d ds, MR K φ F H m ∧ Rep K φ F d x ∧ RepL K φ F ds vs ∧ Pst K W (RD K) σ φ F H (mthD d n ds m) Q
section
variable {X : Cx} {W : WX}
theorem repL1 {K : PySem.W.Frag} {φ : List Addr} {F : Hp} {d : D} {vs : List V} (r : RepL K φ F [d] vs) : ∃ v, vs = [v] ∧ Rep K φ F d v := by
  cases r with
  | cons h r => cases r; exact ⟨_, rfl, h⟩
theorem repL2 {K : PySem.W.Frag} {φ : List Addr} {F : Hp} {d e : D} {vs : List V} (r : RepL K φ F [d, e] vs) : ∃ v u, vs = [v, u] ∧ Rep K φ F d v ∧ Rep K φ F e u := by
  cases r with
  | cons h r =>
    cases r with
    | cons h2 r => cases r; exact ⟨_, _, rfl, h, h2⟩
theorem cv_len : CallR X (.builtin "len") (CVof X.K W (bltD .len)) := by
  intro pins s σ H vs us Q I r ⟨σ', φ, F, m, ds, mr, rd, h⟩
  simp only [bltD] at h
  split at h
  · obtain ⟨d, e, h⟩ := h.retO
    obtain ⟨n, e1, rfl⟩ := Option.map_eq_some_iff.mp e
    obtain ⟨v, rfl, rv⟩ := repL1 rd
    unfold lenD at e1
    split at e1
    · cases e1
      cases rv with
      | tup h1 r1 => exact call_len_seq pins s σ H _ us Q I r ⟨_, _, rfl, .inr (SqT.of (mr.ext _ _ h1)), by rw [r1.len]; exact h.okQ mr (.int _)⟩
    · split at e1
      · rename_i hl
        cases e1
        cases rv
        exact call_len_str pins s σ H _ us Q I r ⟨_, rfl, line_le hl, h.okQ mr (.int _)⟩
      · cases e1
    · cases e1
      cases rv with
      | inp h1 => exact call_len_seq pins s σ H _ us Q I r ⟨_, _, rfl, .inl (mr.ext.sqL h1), by rw [List.length_map]; exact h.okQ mr (.int _)⟩
    · split at e1
      · rename_i xs h1
        cases e1
        obtain ⟨a, ws, rfl, h2, r2⟩ := getL_rep mr h1 rv
        exact call_len_seq pins s σ H _ us Q I r ⟨_, _, rfl, .inl (SqL.of h2), by rw [r2.len]; exact h.okQ mr (.int _)⟩
      · cases e1
  · exact h.elim
theorem cv_tup : CallR X (.type "tuple") (CVof X.K W (bltD .tup)) := by
  intro pins s σ H vs us Q I r ⟨σ', φ, F, m, ds, mr, rd, h⟩
  simp only [bltD] at h
  split at h
  · obtain ⟨v, rfl, rv⟩ := repL1 rd
    cases rv with
    | tup h1 r1 => exact call_tuple_of pins s σ H _ us Q I r ⟨_, _, rfl, .inr ⟨SqT.of (mr.ext _ _ h1), h.okQ mr (.tup h1 r1)⟩⟩
  · obtain ⟨d, e, h⟩ := h.retO
    obtain ⟨xs, e1, rfl⟩ := Option.map_eq_some_iff.mp e
    obtain ⟨v, rfl, rv⟩ := repL1 rd
    obtain ⟨a, ws, rfl, h2, r2⟩ := getL_rep mr e1 rv
    exact call_tuple_of pins s σ H _ us Q I r ⟨_, _, rfl, .inl ⟨SqL.of h2, fun p hp => h.frozT mr hp r2⟩⟩
  · exact h.elim
theorem log_small {i : Int} (h : i.natAbs < 2 ^ 64) : i.natAbs.log2 < 1920 := by
  by_cases h0 : i.natAbs = 0
  · rw [h0]; decide
  · exact Nat.lt_trans ((Nat.log2_lt h0).mpr h) (by decide)
theorem cv_str : CallR X (.type "str") (CVof X.K W (bltD .str)) := by
  intro pins s σ H vs us Q I r ⟨σ', φ, F, m, ds, mr, rd, h⟩
  simp only [bltD] at h
  split at h
  · split at h
    · rename_i i hl
      obtain ⟨v, rfl, rv⟩ := repL1 rd
      cases rv
      exact call_str_int pins s σ H _ us Q I r ⟨_, rfl, log_small hl, h.okQ mr (.str _)⟩
    · exact h.elim
  · exact h.elim
theorem cv_int : CallR X (.type "int") (CVof X.K W (bltD .int)) := by
  intro pins s σ H vs us Q I r ⟨σ', φ, F, m, ds, mr, rd, h⟩
  simp only [bltD] at h
  split at h
  · obtain ⟨v, rfl, rv⟩ := repL1 rd
    cases rv
    exact call_int1 pins s σ H _ us Q I r (.inr ⟨_, rfl, h.okQ mr (.int _)⟩)
  · obtain ⟨v, rfl, rv⟩ := repL1 rd
    cases rv
    exact call_int1 pins s σ H _ us Q I r (.inl ⟨_, rfl, h.okQ mr (.int _)⟩)
  · split at h
    · rename_i z hl
      obtain ⟨d, e, h⟩ := h.retO
      obtain ⟨n, e1, rfl⟩ := Option.map_eq_some_iff.mp e
      obtain ⟨v, rfl, rv⟩ := repL1 rd
      cases rv
      exact call_int_str pins s σ H _ us Q I r ⟨_, n, rfl, e1, hl, h.okQ mr (.int _)⟩
    · exact h.elim
  · exact h.elim
theorem cv_max (hc : X.calm = true) : CallR X (.builtin "max") (CVof X.K W (bltD .max)) := by
  intro pins s σ H vs us Q I r ⟨σ', φ, F, m, ds, mr, rd, h⟩
  simp only [bltD] at h
  split at h
  · obtain ⟨v, u, rfl, rv, ru⟩ := repL2 rd
    cases rv; cases ru
    exact call_max2 hc pins s σ H _ us Q I r ⟨_, _, rfl, h.okQ mr (.int _)⟩
  · exact h.elim
theorem cv_min (hc : X.calm = true) : CallR X (.builtin "min") (CVof X.K W (bltD .min)) := by
  intro pins s σ H vs us Q I r ⟨σ', φ, F, m, ds, mr, rd, h⟩
  simp only [bltD] at h
  split at h
  · obtain ⟨v, u, rfl, rv, ru⟩ := repL2 rd
    cases rv; cases ru
    exact call_min2 hc pins s σ H _ us Q I r ⟨_, _, rfl, h.okQ mr (.int _)⟩
  · exact h.elim
/-- list(x) -/
def lofR (mu : Bool) (ds : List D) (m : Mem) : Res D := match ds with
  | [x] => match lofD x m with
    | some xs => newL mu xs m
    | none => .stuck
  | _ => .stuck
theorem cv_lof (mu : Bool) : CallR X (.type "list") (CVof X.K W (lofR mu)) := by
  intro pins s σ H vs us Q I r ⟨σ', φ, F, m, ds, mr, rd, h⟩
  unfold lofR at h
  split at h
  · obtain ⟨v, rfl, rv⟩ := repL1 rd
    split at h
    · rename_i x xs hx
      unfold lofD at hx
      split at hx
      · cases hx
        cases rv with
        | tup h1 r1 => exact call_list_of pins s σ H _ us Q I r ⟨_, _, rfl, .inr (SqT.of (mr.ext _ _ h1)), fun p hp => h.newL mr hp r1⟩
      · cases hx
        cases rv with
        | inp h1 => exact call_list_of pins s σ H _ us Q I r ⟨_, _, rfl, .inl (mr.ext.sqL h1), fun p hp => h.newL mr hp RepL.ints⟩
      · obtain ⟨a, ws, rfl, h2, r2⟩ := getL_rep mr hx rv
        exact call_list_of pins s σ H _ us Q I r ⟨_, _, rfl, .inl (SqL.of h2), fun p hp => h.newL mr hp r2⟩
    · exact h.elim
  · exact h.elim
/-! ### isinstance -/
def Tn.nm : Tn → String
  | .non => "NoneType"
  | .bool => "bool"
  | .int => "int"
  | .str => "str"
  | .tup => "tuple"
  | .lst => "list"
theorem tyD_rep {K : PySem.W.Frag} {φ : List Addr} {F H : Hp} {m : Mem} {d : D} {v : V} {t : Tn} (mr : MR K φ F H m) (r : Rep K φ F d v) (h : tyD m d = some t) : TyX K H v (.type t.nm) := by
  cases r with
  | non => cases h; exact .base .non
  | bl b => cases h; exact .base (.bl b)
  | int b => cases h; exact .base (.int b)
  | str b => cases h; exact .base (.str b)
  | tup h1 h2 => cases h; exact .base (.tup (mr.ext _ _ h1))
  | lst h1 h2 => cases h; exact .base (.lst (mr.ext _ _ h1))
  | @ptr a n hn =>
    simp only [tyD] at h
    cases e : m[n]? with
    | none => rw [e] at h; cases h
    | some c =>
      rw [e] at h
      cases c with
      | lst xs =>
        cases h
        obtain ⟨_, ys, h1, h2⟩ := mr.cell n a _ hn e
        exact .base (.lst h1)
      | _ => cases h
  | _ => cases h
theorem kit_isa (K : PySem.W.Frag) (t c : Tn) (hc : c ≠ .non) : PySem.W.kitOne K (.type t.nm) (.type c.nm) = some (isaD t c) := by
  refine kit_ty ?_
  cases c with
  | non => exact (hc rfl).elim
  | _ => cases t <;> decide +kernel
theorem kit_all (K : PySem.W.Frag) (t : Tn) : ∀ cs : List Tn, (∀ c ∈ cs, c ≠ .non) → PySem.W.kitAny K (.type t.nm) (cs.map fun c => Value.type c.nm) = some (cs.any (isaD t))
  | [], _ => kitAny_nil
  | c :: cs, h => by
    rw [List.map_cons, List.any_cons]
    cases e : isaD t c with
    | true => exact kitAny_cons (kit_isa K t c (h c List.mem_cons_self)) (fun q => by rw [e] at q; cases q) fun _ => rfl
    | false =>
      rw [Bool.false_or]
      exact kitAny_cons (kit_isa K t c (h c List.mem_cons_self)) (fun _ => kit_all K t cs fun c hc => h c (List.mem_cons_of_mem _ hc)) fun q => by rw [e] at q; cases q
/-! ### methods -/
theorem isLstP_rep {K : PySem.W.Frag} {φ : List Addr} {F H : Hp} {m : Mem} {d : D} {v : V} (mr : MR K φ F H m) (r : Rep K φ F d v) (h : isLstP d m = true) : tyV K "list" v H := by
  cases r with
  | @ptr a n hn =>
    simp only [isLstP] at h
    cases e : m[n]? with
    | none => rw [e] at h; cases h
    | some c =>
      rw [e] at h
      cases c with
      | lst xs =>
        obtain ⟨_, ys, h1, h2⟩ := mr.cell n a _ hn e
        exact .inl ⟨rfl, ys, SqL.of h1⟩
      | _ => cases h
  | _ => cases h
theorem mr_lst {K : PySem.W.Frag} {φ : List Addr} {F H : Hp} {m : Mem} {p : Nat} {xs : List D} {v : V} (mr : MR K φ F H m) (r : Rep K φ F (.ptr p) v) (h : m[p]? = some (.lst xs)) : ∃ a ys, v = .ref a ∧ φ[p]? = some a ∧ H a = some (.lst ys) ∧ RepL K φ F xs ys := by
  cases r with
  | @ptr a _ hn =>
    obtain ⟨_, ys, h1, h2⟩ := mr.cell p a _ hn h
    exact ⟨a, ys, rfl, hn, h1, h2⟩
theorem Pst.set {K : PySem.W.Frag} {φ : List Addr} {F H : Hp} {m : Mem} {W : WX} {σ : L2.St} {d : D} {v : V} {p : Nat} {a : Addr} {xs : List D} {ys : List V} {Q : VK} (h : Pst K W (RD K) σ φ F H (.ok d (m.set p (.lst xs))) Q) (mr : MR K φ F H m) (ha : φ[p]? = some a)
    (r : RepL K φ F xs ys) (rd : Rep K φ F d v) : Q v (upd H a (.lst ys)) := by
  obtain ⟨m1, s1⟩ := mr.write (o := .lst ys) (c := .lst xs) ha ⟨ys, upd_same, r⟩
  exact h _ _ _ _ s1 m1 rd
theorem mv_app : MtR X "list.append" (MVof X.K W .app) := by
  intro pins s σ H x vs v us Q I rx rs ⟨σ', φ, F, m, d, ds, mr, rd, rl, h⟩
  simp only [mthD] at h
  split at h
  · rename_i p d'
    split at h
    · rename_i xs e
      split at h
      · rename_i hl
        obtain ⟨a, ys, rfl, ha, h1, r1⟩ := mr_lst mr rd e
        obtain ⟨y, rfl, ry⟩ := repL1 rl
        exact mt_append pins s σ H _ _ v us Q I rx rs ⟨a, ys, y, rfl, rfl, h1, by rw [r1.len]; exact line_lt hl, h.set mr ha (r1.append (.cons ry .nil)) .non⟩
      · exact h.elim
    · exact h.elim
  · exact h.elim
theorem mv_ext : MtR X "list.extend" (MVof X.K W .ext) := by
  intro pins s σ H x vs v us Q I rx rs ⟨σ', φ, F, m, d, ds, mr, rd, rl, h⟩
  simp only [mthD] at h
  split at h
  · rename_i p d'
    split at h
    · rename_i xs zs e e2
      split at h
      · rename_i hl
        obtain ⟨a, ys, rfl, ha, h1, r1⟩ := mr_lst mr rd e
        obtain ⟨y, rfl, ry⟩ := repL1 rl
        obtain ⟨b, ws, rfl, h2, r2⟩ := getL_rep mr e2 ry
        exact mt_extend pins s σ H _ _ v us Q I rx rs ⟨a, b, ys, ws, rfl, rfl, h1, h2, by rw [r1.len, r2.len]; exact line_le hl, h.set mr ha (r1.append r2) .non⟩
      · exact h.elim
    · exact h.elim
  · exact h.elim
theorem RepL.reverse' {K : PySem.W.Frag} {φ : List Addr} {F : Hp} {ds : List D} {vs : List V} (r : RepL K φ F ds vs) : RepL K φ F ds.reverse vs.reverse := r.reverse
theorem mv_clr : MtR X "list.clear" (MVof X.K W .clr) := by
  intro pins s σ H x vs v us Q I rx rs ⟨σ', φ, F, m, d, ds, mr, rd, rl, h⟩
  simp only [mthD] at h
  split at h
  · rename_i p
    split at h
    · rename_i xs e
      obtain ⟨a, ys, rfl, ha, h1, r1⟩ := mr_lst mr rd e
      cases rl
      exact mt_clear pins s σ H _ _ v us Q I rx rs ⟨a, ys, rfl, rfl, h1, h.set mr ha .nil .non⟩
    · exact h.elim
  · exact h.elim
theorem mv_rvs : MtR X "list.reverse" (MVof X.K W .rvs) := by
  intro pins s σ H x vs v us Q I rx rs ⟨σ', φ, F, m, d, ds, mr, rd, rl, h⟩
  simp only [mthD] at h
  split at h
  · rename_i p
    split at h
    · rename_i xs e
      obtain ⟨a, ys, rfl, ha, h1, r1⟩ := mr_lst mr rd e
      cases rl
      exact mt_reverse pins s σ H _ _ v us Q I rx rs ⟨a, ys, rfl, rfl, h1, h.set mr ha r1.reverse .non⟩
    · exact h.elim
  · exact h.elim
theorem mv_pop : MtR X "list.pop" (MVof X.K W .pop) := by
  intro pins s σ H x vs v us Q I rx rs ⟨σ', φ, F, m, d, ds, mr, rd, rl, h⟩
  simp only [mthD] at h
  split at h
  · rename_i p
    split at h
    · rename_i xs e
      split at h
      · rename_i d' he
        obtain ⟨a, ys, rfl, ha, h1, r1⟩ := mr_lst mr rd e
        cases rl
        obtain ⟨y, hy, ry⟩ := r1.get he
        exact mt_pop pins s σ H _ _ v us Q I rx rs ⟨a, ys, y, rfl, rfl, h1, by rw [r1.len]; exact hy, h.set mr ha r1.dropLast ry⟩
      · exact h.elim
    · exact h.elim
  · rename_i p i
    split at h
    · rename_i xs e
      split at h
      · rename_i k hk
        split at h
        · rename_i d' he
          split at h
          · rename_i hl
            obtain ⟨a, ys, rfl, ha, h1, r1⟩ := mr_lst mr rd e
            obtain ⟨y, rfl, ry⟩ := repL1 rl
            cases ry
            obtain ⟨z, hz, rz⟩ := r1.get he
            obtain ⟨k1, k2, k3, k4⟩ := ixN_seq hk
            have hl2 := lineS
            have hn := line63
            have hl3 : line = 1000000 := rfl
            refine mt_popAt pins s σ H _ _ v us Q I rx rs ⟨a, ys, i, k, z, rfl, rfl, h1, by omega, by omega, by rw [r1.len]; exact k1, hz, h.set mr ha (r1.erase k) rz⟩
          · exact h.elim
        · exact h.elim
      · exact h.elim
    · exact h.elim
  · exact h.elim
theorem RepL.toBls {K : PySem.W.Frag} {φ : List Addr} {F : Hp} : ∀ {ds : List D} {bs : List Bool} {vs : List V}, blsD ds = some bs → RepL K φ F ds vs → vs = bs.map V.bl
  | [], bs, _, e, .nil => by cases e; rfl
  | .bl i :: ds, bs, _, e, .cons (.bl _) r => by
    have e1 : (blsD ds).map (i :: ·) = some bs := e
    cases h : blsD ds with
    | none => rw [h] at e1; cases e1
    | some ms =>
      rw [h] at e1
      cases e1
      rw [RepL.toBls h r]
      rfl
theorem bls_flat (bs : List Bool) : (bs.map V.bl).all flatV = true := by
  rw [List.all_map]
  exact List.all_eq_true.mpr fun _ _ => rfl
theorem mv_cnt : MtR X "list.count" (MVof X.K W .cnt) := by
  intro pins s σ H x vs v us Q I rx rs ⟨σ', φ, F, m, d, ds, mr, rd, rl, h⟩
  simp only [mthD] at h
  split at h
  · rename_i b
    split at h
    · rename_i bs e
      obtain ⟨xs, e1, e2⟩ := Option.bind_eq_some_iff.mp e
      obtain ⟨a, ys, rfl, h1, r1⟩ := getL_rep mr e1 rd
      obtain ⟨y, rfl, ry⟩ := repL1 rl
      cases ry
      have ey := RepL.toBls e2 r1
      subst ey
      refine mt_countF pins s σ H _ _ v us Q I rx rs ⟨a, _, .bl b, rfl, rfl, SqL.of h1, rfl, bls_flat bs, ?_⟩
      have ec : (bs.map V.bl).countP (fun z => eqV z (.bl b)) = bs.countP (fun z => z == b) := by
        rw [List.countP_map]
        rfl
      rw [ec]
      exact h.okQ mr (.int _)
    · exact h.elim
  · exact h.elim
theorem mv_idx : MtR X "list.index" (MVof X.K W .idx) := by
  intro pins s σ H x vs v us Q I rx rs ⟨σ', φ, F, m, d, ds, mr, rd, rl, h⟩
  simp only [mthD] at h
  split at h
  · rename_i b
    split at h
    · rename_i bs e
      split at h
      · rename_i j hj
        obtain ⟨xs, e1, e2⟩ := Option.bind_eq_some_iff.mp e
        obtain ⟨a, ys, rfl, h1, r1⟩ := getL_rep mr e1 rd
        obtain ⟨y, rfl, ry⟩ := repL1 rl
        cases ry
        have ey := RepL.toBls e2 r1
        subst ey
        obtain ⟨hl, hb, hno⟩ := List.findIdx?_eq_some_iff_getElem.mp hj
        refine mt_index pins s σ H _ _ v us Q I rx rs ⟨a, _, .bl b, j, .bl bs[j], rfl, rfl, SqL.of h1, rfl, bls_flat bs, by rw [List.getElem?_map, List.getElem?_eq_getElem hl]; rfl, hb, fun i z hi hz => ?_, h.okQ mr (.int _)⟩
        rw [List.getElem?_map, List.getElem?_eq_getElem (Nat.lt_trans hi hl)] at hz
        cases hz
        have := hno i hi
        simpa [eqV] using this
      · exact h.elim
    · exact h.elim
  · exact h.elim
theorem mv_get (hu : X.A.units + 65 < cLine) : MtR X "dict.get" (MVof X.K W .get) := by
  intro pins s σ H x vs v us Q I rx rs ⟨σ', φ, F, m, d, ds, mr, rd, rl, h⟩
  simp only [mthD] at h
  split at h
  · rename_i k d'
    split at h
    · rename_i kvs kk e1 e2
      obtain ⟨a, ys, rfl, h1, r1⟩ := getK_rep mr e1 rd
      obtain ⟨y, z, rfl, ry, rz⟩ := repL2 rl
      have ey := kD_rep e2 ry
      subst ey
      cases rx
      obtain ⟨u1, u2, rfl, ru1, ru2⟩ := vals2 rs
      refine d_get2 (by omega) I (DGet.k (k := kk) h1) ru1 ru2 fun w' s' I' r' => ⟨_, H, I', r', ?_⟩
      cases e : lookK kvs kk with
      | none =>
        rw [(hasK_rep kk r1).2.2 e]
        rw [e] at h
        exact h.okQ mr rz
      | some dd =>
        obtain ⟨w, e3, rw'⟩ := (hasK_rep kk r1).2.1 dd e
        rw [e3]
        rw [e] at h
        exact h.okQ mr rw'
    · exact h.elim
  · exact h.elim
theorem merge_rep0 {K : PySem.W.Frag} {φ : List Addr} {F : Hp} : ∀ {more : List (Key × D)} {vs : List (Key × V)} {ds : List (Key × D)} {ws : List (Key × V)}, RepK K φ F more vs → RepK K φ F ds ws → RepK K φ F (more.foldl (fun a p => putD a p.1 p.2) ds) (mergeK ws vs)
  | _, _, _, _, .nil, r => r
  | _, _, ds, ws, .cons (k := k) (d := d) (v := v) (ds := es) (vs := us) h q, r => by
    show RepK K φ F (es.foldl (fun a p => putD a p.1 p.2) (putD ds k d)) (mergeK (putK ws k v) us)
    exact merge_rep0 q (putD_rep h r)
theorem mv_upd : MtR X "dict.update" (MVof X.K W .upd) := by
  intro pins s σ H x vs v us Q I rx rs ⟨σ', φ, F, m, d, ds, mr, rd, rl, h⟩
  simp only [mthD] at h
  split at h
  · rename_i p d'
    split at h
    · rename_i kvs more e
      split at h
      · rename_i hl
        cases rd with
        | @ptr a _ hp =>
          obtain ⟨hF, ws, h1, r1⟩ := mr.cell p a _ hp e
          obtain ⟨y, rfl, ry⟩ := repL1 rl
          cases ry with
          | @dic b _ zs h2 r2 =>
            have hab : a ≠ b := fun z => by
              rw [z, h2] at hF
              cases hF
            cases rx
            obtain ⟨u1, rfl, ru1⟩ := vals1 rs
            cases ru1
            obtain ⟨z1, hd1, vs1, rel1, dd1⟩ := dk_of I.hok h1
            obtain ⟨z2, hd2, vs2, rel2, dd2⟩ := dk_of I.hok (mr.ext _ _ h2)
            have el1 := rel1.length
            have el2 := rel2.length
            have q1 := r1.len
            have q2 := r2.len
            have hlS := lineS
            refine call_meetsIn PySem.F.slot_dict_update dd1.typeIs PySem.F.entry_dict_update (PySem.F.args_dict_update_2 _ _) (meets_dict_update (mixKind X.prog X.w) a b hab hd2) ⟨_, _, dd1, dd2, by omega, fun h' d1 _ hs => ?_⟩
            have hc : CellR X.K φ F (upd H a (.dK (mergeK ws zs))) a (.dct (more.foldl (fun a q => putD a q.1 q.2) kvs)) := ⟨_, upd_same, merge_rep0 r2 r1⟩
            obtain ⟨mr2, st2⟩ := mr.write (c := .dct (more.foldl (fun a q => putD a q.1 q.2) kvs)) hp hc
            have hlen := length_mergeK zs ws
            refine ⟨.non, _, d_write (t' := s.toks) I (by rw [h1]; exact True.intro) hs ?_ (dk_new (by omega) hd1 (rel2.merge rel1) d1), rfl, h _ _ _ _ st2 mr2 .non⟩
            obtain ⟨o, _, _, ho, _⟩ := d1
            exact ⟨o, ho⟩
      · exact h.elim
    · exact h.elim
  · exact h.elim
theorem mv_join : MtR X "str.join" (MVof X.K W .join) := by
  intro pins s σ H x vs v us Q I rx rs ⟨σ', φ, F, m, d, ds, mr, rd, rl, h⟩
  simp only [mthD] at h
  split at h
  · rename_i a x'
    split at h
    · rename_i ys hy
      split at h
      · rename_i hl
        cases rd
        obtain ⟨y, rfl, ry⟩ := repL1 rl
        have hl : joinLen a ys ≤ 16777216 := Nat.le_trans hl (by decide)
        split at hy
        · cases ry with
          | tup h1 r1 =>
            have e := RepL.toStrs hy r1
            subst e
            exact mt_join pins s σ H _ _ v us Q I rx rs ⟨a, _, ys, rfl, rfl, .inr (SqT.of (mr.ext _ _ h1)), hl, h.okQ mr (.str _)⟩
        · obtain ⟨zs, e1, e2⟩ := Option.bind_eq_some_iff.mp hy
          obtain ⟨b, ws, rfl, h2, r2⟩ := getL_rep mr e1 ry
          have e := RepL.toStrs e2 r2
          subst e
          exact mt_join pins s σ H _ _ v us Q I rx rs ⟨a, _, ys, rfl, rfl, .inl (SqL.of h2), hl, h.okQ mr (.str _)⟩
      · exact h.elim
    · exact h.elim
  · exact h.elim
theorem mv_split : MtR X "str.split" (MVof X.K W .split) := by
  intro pins s σ H x vs v us Q I rx rs ⟨σ', φ, F, m, d, ds, mr, rd, rl, h⟩
  simp only [mthD] at h
  split at h
  · rename_i a b
    split at h
    · rename_i hl
      cases rd
      obtain ⟨y, rfl, ry⟩ := repL1 rl
      cases ry
      have h2 : line + 1 ≤ sizeLine := by rw [sizeLine_eq]; decide
      exact mt_split pins s σ H _ _ v us Q I rx rs ⟨a, b, rfl, rfl, by rw [hl.1]; rfl, by omega, fun p hp => h.frozL mr hp RepL.strs⟩
    · exact h.elim
  · exact h.elim
end
end Mi

set_option Elab.async false
set_option linter.all false
set_option maxRecDepth 100000
set_option maxHeartbeats 4000000
/-! MiE: the text against the small language (chk..). -/
namespace Mi
open PySem L2
variable [WW]

def Bi.nm : Bi → Str
  | .len => "len"
  | .tup => "tuple"
  | .str => "str"
  | .int => "int"
  | .max => "max"
  | .min => "min"
def Me.nm : Me → Str
  | .app => "append"
  | .ext => "extend"
  | .pop => "pop"
  | .get => "get"
  | .join => "join"
  | .split => "split"
  | .upd => "update"
  | .cnt => "count"
  | .idx => "index"
  | .clr => "clear"
  | .rvs => "reverse"
def visB (sc : Scope) (x : Str) : Bool := match sc.names.lookup x with
  | some .local => true
  | some .cell => true
  | some .free => true
  | _ => false
def glB (sc : Scope) (x : Str) : Bool := match sc.names.lookup x with
  | some .globalImplicit => true
  | _ => false
def dbg (x : Str) : Bool := x == ("__debug__" : Str)
def cld (x : Str) : Bool := x == ("__classdict__" : Str)
def notIf : CE → Bool
  | .ifx _ _ _ => false
  | _ => true
def notIfs : CEs → Bool
  | .nil => true
  | .cons e es => notIf e && notIfs es
/-- is it super()? -/
def supB : Expr → Bool
  | .Call (.Name id _) [] [] _ => id == ("super" : Str)
  | _ => false
/-- a target: its names, by slots -/
def stoB (N : List Str) (sc : Scope) (af : Bool) (i : Nat) (x : Str) : Bool := decide (N[i]? = some x) && (match sc.names.lookup x with
  | some .local => true
  | some .cell => af
  | _ => false)
def chkNs (N : List Str) (sc : Scope) (af : Bool) : List (Nat × Str) → List Expr → Bool
  | [], [] => true
  | (i, x) :: r, .Name y _ :: es => decide (x = y) && stoB N sc af i x && chkNs N sc af r es
  | _, _ => false
def chkT (N : List Str) (sc : Scope) (af calm : Bool) : CT → Expr → Bool
  | .nam i x, .Name y _ => decide (x = y) && stoB N sc af i x
  | .tup xs, .Tuple es _ _ => calm && chkNs N sc af xs es
  | _, _ => false
def isNam (x : Str) : Expr → Bool
  | .Name y _ => decide (x = y)
  | _ => false
def tyNams (sc : Scope) : List Tn → List Expr → Bool
  | [], [] => true
  | t :: ts, .Name y _ :: es => decide (t ≠ .non) && decide (y = Str.ofString t.nm) && glB sc y && tyNams sc ts es
  | _, _ => false
def slotsT : CT → List Nat
  | .nam i _ => [i]
  | .tup xs => xs.map (·.1)
def zipB : CI → Bool
  | .zip _ _ => true
  | _ => false
def tupB : CT → Bool
  | .tup _ => true
  | _ => false
def pairsB : CPs → Nat
  | .nil => 0
  | .cons _ _ r => pairsB r + 1
/-- no parameters -/
def noPs : Arguments → Bool
  | ⟨[], [], none, [], [], none, []⟩ => true
  | _ => false
mutual
def chkE (N : List Str) (sc : Scope) (af calm : Bool) : CE → Expr → Bool
  | .cst (.int i), .Constant (.int j) _ _ => decide (i = j)
  | .cst (.str i), .Constant (.str j) _ _ => decide (i = j)
  | .cst (.bl i), .Constant (.bool j) _ _ => decide (i = j)
  | .cst .non, .Constant .none _ _ => true
  | .var i x, .Name y _ => decide (x = y) && decide (N[i]? = some x) && visB sc x && !dbg x && !cld x
  | .glb x, .Name y _ => decide (x = y) && glB sc x && !dbg x
  | .bin o a b, .BinOp e o' e' _ => decide (o = o') && chkE N sc af calm a e && chkE N sc af calm b e'
  | .neg a, .UnaryOp .USub e _ => chkE N sc af calm a e
  | .cmp o a b, .Compare e [o'] [e'] _ => decide (o = o') && chkE N sc af calm a e && chkE N sc af calm b e'
  | .cmp2 o p a b c, .Compare e [o', p'] [e', e''] _ => decide (o = o') && decide (p = p') && chkE N sc af calm a e && chkE N sc af calm b e' && chkE N sc af calm c e''
  | .bop o es, .BoolOp o' es' _ => decide (o = o') && notIfs es && !es'.isEmpty && chkL N sc af calm es es'
  | .nott a, .UnaryOp .Not e _ => notIf a && chkE N sc af calm a e
  | .ifx t a b, .IfExp e e' e'' _ => notIf t && chkE N sc af calm t e && chkE N sc af calm a e' && chkE N sc af calm b e''
  | .tup es, .Tuple es' _ _ => chkL N sc af calm es es'
  | .lst _ es, .List es' _ => chkL N sc af calm es es'
  | .dic _ ps, .Dict ks vs _ => decide (ks.length ≤ 15) && chkP N sc af calm ps ks vs
  | .idx a i, .Subscript e e' _ => chkE N sc af calm a e && chkE N sc af calm i e'
  | .sli a lo hi, .Subscript e (.Slice l h none _) _ => chkE N sc af calm a e && chkO N sc af calm lo l && chkO N sc af calm hi h
  | .rev a, .Subscript e (.Slice none none (some (.UnaryOp .USub (.Constant (.int j) _ _) _)) _) _ => decide (j = 1) && chkE N sc af calm a e
  | .call f es, .Call (.Name y _) es' [] _ => calm && decide (f = y) && glB sc f && !dbg f && chkL N sc af calm es es'
  | .blt f es, .Call (.Name y _) es' [] _ => (calm || match f with | .max => false | .min => false | _ => true) && decide (f.nm = y) && glB sc y && !es'.isEmpty && chkL N sc af calm es es'
  | .lof _ a, .Call (.Name y _) [e] [] _ => decide (y = "list") && glB sc y && chkE N sc af calm a e
  | .srs a, .Call (.Name y _) [.Call (.Name z _) [e] [] _] [] _ => calm && decide (y = "sorted") && glB sc y && decide (z = "set") && glB sc z && chkE N sc af calm a e
  | .isi a true [t], .Call (.Name y _) [e, .Name z _] [] _ => decide (y = "isinstance") && glB sc y && decide (t ≠ .non) && decide (z = Str.ofString t.nm) && glB sc z && chkE N sc af calm a e
  | .isi a false ts, .Call (.Name y _) [e, .Tuple es' _ _] [] _ => decide (y = "isinstance") && glB sc y && decide (ts.length ≤ 10) && tyNams sc ts es' && chkE N sc af calm a e
  | .mth o n es, .Call (.Attribute e y apos) es' [] pos => decide (n.nm = y) && (!es'.isEmpty || decide (n = .pop) || decide (n = .clr) || decide (n = .rvs)) && !supB e && (apos.endLine == pos.line) && decide (es'.length < 20) && chkE N sc af calm o e && chkL N sc af calm es es'
  | .own o _ n es, .Call (.Attribute e y apos) es' [] pos => calm && decide (n = y) && !supB e && (apos.endLine == pos.line) && decide (es'.length < 20) && chkE N sc af calm o e && chkL N sc af calm es es'
  | .att o f, .Attribute e y _ => decide (f = y) && !supB e && chkE N sc af calm o e
  | .lc _ elt t it ifs ow, .ListComp e [⟨tg, iter, es', 0⟩] scope _ => calm && blkC N sc scope ow && chkI N sc af calm it iter && chkT N (relS scope sc) false calm t tg &&
      decide (es'.length ≤ 1) && (slotsT t).all (fun j => decide (j ∈ ow.map (·.2))) && (!zipB it || tupB t) && notIfs ifs && chkL N (relS scope sc) false calm ifs es' && chkE N (relS scope sc) false calm elt e
  | .x1 .lenN a, .Call (.Name y _) [e] [] _ => decide (y = "len") && glB sc y && chkE N sc af calm a e
  | .x1 .srl a, .Call (.Name y _) [.Call (.Name z _) [e] [] _] [] _ => calm && decide (y = "sorted") && glB sc y && decide (z = "set") && glB sc z && chkE N sc af calm a e
  | .x1 .rngL a, .Call (.Name y _) [.Call (.Name z _) [e] [] _] [] _ => calm && decide (y = "list") && glB sc y && decide (z = "range") && glB sc z && chkE N sc af calm a e
  | .x1 .soN a, .Call (.Name y _) [e] [] _ => calm && decide (y = "sorted") && glB sc y && chkE N sc af calm a e
  | .x1 .srp a, .Call (.Name y _) [.Call (.Name z _) [e] [] _] [] _ => calm && decide (y = "sorted") && glB sc y && decide (z = "set") && glB sc z && chkE N sc af calm a e
  | .x1 .sor a, .Call (.Name y _) [e] [] _ => decide (y = "sorted") && glB sc y && chkE N sc af calm a e
  | .x2 .rngL2 a b, .Call (.Name y _) [.Call (.Name z _) [e, e'] [] _] [] _ => calm && decide (y = "list") && glB sc y && decide (z = "range") && glB sc z && chkE N sc af calm a e && chkE N sc af calm b e'
  | .x2 .inN a b, .Compare e [o'] [e'] _ => decide (o' = .In) && chkE N sc af calm a e && chkE N sc af calm b e'
  | .x2 .ninN a b, .Compare e [o'] [e'] _ => decide (o' = .NotIn) && chkE N sc af calm a e && chkE N sc af calm b e'
  | .x2 .dispN a b, .Dict [some e] [e'] _ => chkE N sc af calm a e && chkE N sc af calm b e'
  | .newN, .Dict [] [] _ => true
  | .x2 .addM a b, .BinOp e o' e' _ => decide (o' = .Add) && chkE N sc af calm a e && chkE N sc af calm b e'
  | .x2 .mulM a b, .BinOp e o' e' _ => decide (o' = .Mult) && chkE N sc af calm a e && chkE N sc af calm b e'
  | .isE i n x, .Call (.Name y _) [.Name n' _, .Name x' _] [] _ => af && decide (y = "isinstance") && glB sc y && decide (n = n') && decide (N[i]? = some n) && visB sc n && !dbg n && !cld n && decide (x = x')
  | .kin b, .Call (.Name y _) [.Lambda ps e scope _] [] _ => af && calm && decide (y = "_law_kind") && glB sc y && noPs ps && LamX.lamSB sc scope && chkE N scope false true b e
  | _, _ => false
def chkL (N : List Str) (sc : Scope) (af calm : Bool) : CEs → List Expr → Bool
  | .nil, [] => true
  | .cons a es, e :: es' => chkE N sc af calm a e && chkL N sc af calm es es'
  | _, _ => false
def chkP (N : List Str) (sc : Scope) (af calm : Bool) : CPs → List (Option Expr) → List Expr → Bool
  | .nil, [], [] => true
  | .cons k v ps, some e :: ks, e' :: vs => chkE N sc af calm k e && chkE N sc af calm v e' && chkP N sc af calm ps ks vs
  | _, _, _ => false
def chkO (N : List Str) (sc : Scope) (af calm : Bool) : CO → Option Expr → Bool
  | .no, none => true
  | .yes a, some e => chkE N sc af calm a e
  | _, _ => false
def chkI (N : List Str) (sc : Scope) (af calm : Bool) : CI → Expr → Bool
  | .rng1 a, .Call (.Name y _) [e] [] _ => decide (y = "range") && glB sc y && chkE N sc af calm a e
  | .rng2 a b, .Call (.Name y _) [e, e'] [] _ => decide (y = "range") && glB sc y && chkE N sc af calm a e && chkE N sc af calm b e'
  | .seq a, e => chkE N sc af calm a e
  | .zip a b, .Call (.Name y _) [e, e'] [] _ => decide (y = "zip") && glB sc y && chkE N sc af calm a e && chkE N sc af calm b e'
  | .rev a, .Call (.Name y _) [e] [] _ => decide (y = "reversed") && glB sc y && chkE N sc af calm a e
  | _, _ => false
end
/-! ### what is seen of a text that was checked -/
def plainE : Expr → Bool
  | .Starred _ _ => false
  | .Set _ _ _ => false
  | .Slice _ _ _ _ => false
  | _ => true
theorem chk_plain {N : List Str} {sc : Scope} {af calm : Bool} {c : CE} {e : Expr} (h : chkE N sc af calm c e = true) : plainE e = true := by
  cases e with
  | Starred _ _ => cases c <;> simp [chkE] at h
  | Set _ _ _ => cases c <;> simp [chkE] at h
  | Slice _ _ _ _ => cases c <;> simp [chkE] at h
  | _ => rfl
theorem star_plain {e : Expr} {es : List Expr} {env : Env} (h : plainE e = true) : starEach (e :: es) env = (false, eval e env) :: starEach es env := by
  cases e <;> first | rfl | cases h
theorem chkL_star {N : List Str} {sc : Scope} {af calm : Bool} {env : Env} : ∀ {cs : CEs} {es : List Expr}, chkL N sc af calm cs es = true → (starEach es env).map (·.1) = es.map fun _ => false
  | .nil, [], _ => rfl
  | .cons c cs, e :: es, h => by
    simp only [chkL, Bool.and_eq_true] at h
    rw [star_plain (chk_plain h.1), List.map_cons, List.map_cons, chkL_star h.2]
  | .nil, _ :: _, h => by simp [chkL] at h
  | .cons _ _, [], h => by simp [chkL] at h
theorem back_any {pos : Pos} {l : List (Bool × Sem Value)} {α : Type} {es : List α} (h : l.map (·.1) = es.map fun _ => false) : (backTo pos l).any (·.1) = false := by
  induction l generalizing es with
  | nil => rfl
  | cons p l ih =>
    cases es with
    | nil => cases h
    | cons e es =>
      rw [List.map_cons, List.map_cons] at h
      injection h with h1 h2
      obtain ⟨b, t⟩ := p
      have h1 : b = false := h1
      subst h1
      show (false || (backTo pos l).any (·.1)) = false
      rw [ih h2]
      rfl
theorem back_all {pos : Pos} {l : List (Bool × Sem Value)} {α : Type} {es : List α} (h : l.map (·.1) = es.map fun _ => false) : (backTo pos l).all (fun x => !x.1) = true := by
  induction l generalizing es with
  | nil => rfl
  | cons p l ih =>
    cases es with
    | nil => cases h
    | cons e es =>
      rw [List.map_cons, List.map_cons] at h
      injection h with h1 h2
      obtain ⟨b, t⟩ := p
      have h1 : b = false := h1
      subst h1
      show (true && (backTo pos l).all fun x => !x.1) = true
      rw [ih h2]
      rfl
theorem sup_base {e : Expr} {m : Str} {env : Env} (h : supB e = false) : attributeBase e m env (eval e env) = eval e env := by
  unfold attributeBase
  split
  · rename_i id p1 pos
    have h : (id == ("super" : Str)) = false := h
    have h2 : (id != ("super" : Str)) = true := by
      show (!(id == ("super" : Str))) = true
      rw [h]; rfl
    simp only [h2, Bool.true_or, if_true]
  · rfl
theorem mark_plain {op : CmpOp} {e : Expr} (h : plainE e = true) : behindInMarks op e = false := by
  cases e <;> first | rfl | cases h
theorem sub_plain {e : Expr} (h : plainE e = true) : PlainIx e := by
  intro o i
  cases e <;> first | rfl | cases h
def testB : Expr → Bool
  | .UnaryOp .Not _ _ => false
  | .BoolOp _ _ _ => false
  | .IfExp _ _ _ _ => false
  | .Compare _ _ _ _ => false
  | _ => true
theorem test_plain {e : Expr} {env : Env} (h : testB e = true) (whole : Sem Value) : isTrue e env whole = (do let v ← whole; standAt e.pos; holding [v] (truthy v)) := by
  cases e with
  | UnaryOp op a p => cases op <;> first | rfl | cases h
  | _ => first | rfl | cases h
theorem fold_plain {e : Expr} (h : plainE e = true) (env : Env) (x : Value) : foldedSetIterable e env x = pure x := by
  cases e <;> first | rfl | cases h
end Mi

set_option Elab.async false
set_option linter.all false
set_option maxRecDepth 100000
set_option maxHeartbeats 4000000
/-! MiE2: each expression of a checked text does what the small language says. -/
namespace L2
open PySem
section
variable {X : Cx}
theorem PE.imp {e : Expr} {t t' : TE} (h : PE X e t) (i : ∀ σ H Q, t' σ H Q → t σ H Q) : PE X e t' := ⟨fun pins s σ H Q I q => h.run pins s σ H Q I (i _ _ _ q)⟩
theorem PT.imp {e : Expr} {t t' : TT} (h : PT X e t) (i : ∀ σ H Q, t' σ H Q → t σ H Q) : PT X e t' := ⟨fun pins s σ H Q I q => h.run pins s σ H Q I (i _ _ _ q)⟩
theorem PW.imp {e : Expr} {t t' : TT} (h : PW X e t) (i : ∀ σ H Q, t' σ H Q → t σ H Q) : PW X e t' := ⟨fun wh pins s σ H Q I q => h.run wh pins s σ H Q I (i _ _ _ q)⟩
theorem PA.imp {e : List Expr} {t t' : TA} (h : PA X e t) (i : ∀ σ H Q, t' σ H Q → t σ H Q) : PA X e t' := ⟨fun pos pins s σ H Q I q => h.run pos pins s σ H Q I (i _ _ _ q)⟩
theorem PO.imp {e : Option Expr} {t t' : TO} (h : PO X e t) (i : ∀ σ H Q, t' σ H Q → t σ H Q) : PO X e t' := ⟨fun pins s σ H Q I q => h.run pins s σ H Q I (i _ _ _ q)⟩
theorem PE.ex {ι : Type} {e : Expr} {t : ι → TE} (h : ∀ i, PE X e (t i)) : PE X e (fun σ H Q => ∃ i, t i σ H Q) := ⟨fun pins s σ H Q I ⟨i, q⟩ => (h i).run pins s σ H Q I q⟩

end
end L2
namespace Mi
open PySem L2
variable [WW]

/-- what `_law_kind` makes of a lambda's reading -/
def TTkin (K : PySem.W.Frag) : (XK → Hp → VK → Prop) → Hp → VK → Prop := fun tl H Q =>
  tl (fun cls d H' => ∃ x ∈ kinWords, cls = .ref (He.ga K x) ∧ d = none ∧ LamX.Tabs WW.T H' ∧ ∀ H2 : Hp, LamX.ExtN H' H2 → LamX.Tabs WW.T H2 → Q (.str x) H2) H fun _ H' => Q (.str "") H'
def kinN : Str := "_law_kind"
/-- `_law_kind`: a def that calls what it got, and tells what was raised -/
structure KindOk (P : Program) (w : World) (K : PySem.W.Frag) (mg : Str → Option Value) (base : Heap) : Prop where
  ex : ∃ (a : Str) (g : Addr) (pg : Arguments) (bg : List Stmt) (sg : Scope) (dV kV doc pm cdv ct oc : Value) (an od : Option Addr) (osl : Array (Option Value)) (Ng : List Str),
    mg kinN = some (.ref g) ∧ PySem.W.keepIn K (.ref g) = true ∧ K.lookup g = some ⟨oc, od, .func (PySem.W.fnOf kinN kinN pg bg sg dV kV doc pm an cdv ct), osl⟩ ∧ PySem.W.codeIn K cdv kinN = true ∧
    L2.Binds K (PySem.W.fnOf kinN kinN pg bg sg dV kV doc pm an cdv ct) [a] [] ∧ FnScope Ng [a] sg ∧ Ng[0]? = some a ∧ Vis sg a ∧ (a == ("__debug__" : Str)) = false ∧ (a == ("__classdict__" : Str)) = false ∧
    ∀ (X : Cx) (q : Str), X.prog = P → X.w = w → X.K = K → X.mg = mg → X.base = base → X.A.units + 200 < cLine → LamX.GivesTo X Ng kinN sg g cdv bg a q (TTkin K)
/-- what a def needs that makes lambdas for it -/
structure LamOk (X : Cx) (k : Nat) (G : Gx) : Prop where
  lev : ∃ j, k = j + 2 ∧ GOk X.prog X.w X.K X.mg X.base j G
  kind : KindOk X.prog X.w X.K X.mg X.base
  tab : ∃ c P, LamX.TabB X.base X.mg c P ∧ X.env.code = .ref c ∧ (P, X.env.qual ++ "<lambda>") ∈ WW.T ∧ ∀ p ∈ WW.T, p.1 = P → p.2 = X.env.qual ++ "<lambda>"
structure CK (X : Cx) (W : WX) (G : Gx) (k : Nat) (af : Bool) : Prop where
  g : GOk X.prog X.w X.K X.mg X.base k G
  hu : X.A.units + 65 < cLine
  room : X.calm = true → Room (k + 1) X.A
  tk : Takes X W
  nd : X.N.Nodup
  fn : af = true → ∀ x, X.fn x = true
  st : af = true → X.stack = X.env :: X.outer ∧ X.env.frame = some X.env.locals
  kin : af = true → G.kin = true → LamOk X k G
  ise : af = true → ∀ x b, G.ise x = some b → ∃ (a : Addr) (c : V), WW.x = some a ∧ (∀ p, PE X (.Name x p) (tC c)) ∧ CallR X (.builtin "isinstance") (fun xs H Q => xs = [.ref a, c] ∧ Q (.bl b) H)

section
variable {X : Cx} {W : WX} {G : Gx} {k : Nat} {af : Bool} {α β γ δ : Type} {R : List Addr → Hp → α → β → Prop} {S : List Addr → Hp → γ → δ → Prop}
theorem vis_of {sc : Scope} {x : Str} (h : visB sc x = true) : Vis sc x := by
  unfold visB at h
  split at h
  · exact .inl (by assumption)
  · exact .inr (.inl (by assumption))
  · exact .inr (.inr (by assumption))
  · cases h
theorem gl_of {x : Str} (h : glB X.env.scope x = true) : Gl X x := by
  unfold glB at h
  split at h
  · rename_i q; exact q
  · cases h
theorem not_t {b : Bool} (h : (!b) = true) : b = false := by
  cases b
  · rfl
  · cases h

/-! ### names, constants -/
theorem me_cst {d : D} {e : Expr} {v : V} (h : PE X e (tC v)) (r : ∀ φ F, Rep X.K φ F d v) : PE X e (Tm X.K W (RD X.K) (evalE G (.cst d))) :=
  h.imp fun σ H Q ⟨φ, F, en, m, mr, er, q⟩ => q.okQ mr (r φ F)
theorem me_var {i : Nat} {x : Str} {pos : Pos} (hN : X.N[i]? = some x) (hv : Vis X.env.scope x) (hd : (x == ("__debug__" : Str)) = false) (hcd : (x == ("__classdict__" : Str)) = false) : PE X (.Name x pos) (Tm X.K W (RD X.K) (evalE G (.var i x))) := by
  refine (pe_var hN hv hd hcd).imp fun σ H Q ⟨φ, F, en, m, mr, er, q⟩ => ?_
  simp only [evalE] at q
  split at q
  · rename_i d hd
    obtain ⟨v, h1, h2⟩ := er.val i d hd
    exact ⟨v, h1, q.okQ mr h2⟩
  · exact q.elim
theorem me_glb (c : CK X W G k af) {x : Str} {pos : Pos} (hg : Gl X x) (hd : (x == ("__debug__" : Str)) = false) : PE X (.Name x pos) (Tm X.K W (RD X.K) (evalE G (.glb x))) := by
  refine (PE.ex (ι := { d : D // G.con x = some d }) (t := fun d σ H Q => ∃ v : V, (∀ φ F, Rep X.K φ F d.1 v) ∧ tC v σ H Q ∧ ∃ u, X.mg x = some u ∧ RelV v u) fun ⟨d, e⟩ => ⟨fun pins s σ H Q I ⟨v, r, q, u, h1, h2⟩ => (pe_glob hg h1 h2 hd).run pins s σ H Q I q⟩).imp fun σ H Q ⟨φ, F, en, m, mr, er, q⟩ => ?_
  simp only [evalE] at q
  obtain ⟨d, e, q⟩ := q.retO
  obtain ⟨u, v, h1, h2, h3⟩ := c.g.con x d e
  exact ⟨⟨d, e⟩, v, h3, q.okQ mr (h3 _ _), u, h1, h2⟩
/-! ### operators -/
theorem tm_op {f : D → D → Mem → Res D} {a b : CE} {σ : L2.St} {H : Hp} {Q : VK} (h : Tm X.K W (RD X.K) (fun e m => (evalE G a e m).bind fun x m => (evalE G b e m).bind fun y m => f x y m) σ H Q) :
    tOp (R2of X.K W f) (Tm X.K W (RD X.K) (evalE G a)) (Tm X.K W (RD X.K) (evalE G b)) σ H Q := by
  obtain ⟨φ, F, en, m, mr, er, q⟩ := h
  refine ⟨φ, F, en, m, mr, er, q.bind fun x m1 φ1 F1 H1 v _ s1 mr1 r1 q1 => ?_⟩
  refine ⟨φ1, F1, en, m1, mr1, er.mono s1.pre s1.fx, q1.bind fun y m2 φ2 F2 H2 w _ s2 mr2 r2 q2 => ?_⟩
  exact ⟨σ, φ2, F2, m2, x, y, mr2, r1.mono s2.pre s2.fx, r2, q2⟩
theorem me_bin {o : Operator} {a b : CE} {e e' : Expr} {pos : Pos} (ha : PE X e (Tm X.K W (RD X.K) (evalE G a))) (hb : PE X e' (Tm X.K W (RD X.K) (evalE G b))) : PE X (.BinOp e o e' pos) (Tm X.K W (RD X.K) (evalE G (.bin o a b))) :=
  (pe_op (op_bin o) ha hb).imp fun _ _ _ h => tm_op h
theorem me_neg {a : CE} {e : Expr} {pos : Pos} (ha : PE X e (Tm X.K W (RD X.K) (evalE G a))) : PE X (.UnaryOp .USub e pos) (Tm X.K W (RD X.K) (evalE G (.neg a))) := by
  refine (pe_un un_neg ha).imp fun σ H Q ⟨φ, F, en, m, mr, er, q⟩ => ⟨φ, F, en, m, mr, er, Pst.bind q fun x m1 φ1 F1 H1 v _ s1 mr1 r1 q1 => ?_⟩
  cases x with
  | int i =>
    cases r1
    exact ⟨i, rfl, q1.okQ mr1 (.int _)⟩
  | _ => exact q1.elim
theorem me_cmp (c : CK X W G k af) {o : CmpOp} {a b : CE} {e e' : Expr} {pos : Pos} (ha : PE X e (Tm X.K W (RD X.K) (evalE G a))) (hb : PE X e' (Tm X.K W (RD X.K) (evalE G b))) (hp : plainE e' = true) : PE X (.Compare e [o] [e'] pos) (Tm X.K W (RD X.K) (evalE G (.cmp o a b))) :=
  (pe_cmpR (op_cmp c.g c.hu o) ha hb (mark_plain hp)).imp fun _ _ _ h => tm_op h
/-- a bool is wished for -/
theorem tm_B {f : EnvD → Mem → Res D} {σ : L2.St} {H : Hp} {Q : Bool → Hp → Prop} (h : Tm X.K W RQ (fun e m => asB (f e m)) σ H Q) : Tm X.K W (RD X.K) f σ H fun x H' => ∃ k, x = .bl k ∧ Q k H' := by
  obtain ⟨φ, F, en, m, mr, er, q⟩ := h
  refine ⟨φ, F, en, m, mr, er, Pst.bind q fun x m1 φ1 F1 H1 v _ s1 mr1 r1 q1 => ?_⟩
  obtain ⟨b, e, q2⟩ := q1.retO
  cases x with
  | bl b' =>
    cases e
    cases r1
    exact ⟨b, rfl, q2.okQ mr1 rfl⟩
  | _ => cases e
abbrev TB (X : Cx) (W : WX) (G : Gx) (a : CE) : TT := Tm X.K W RQ (fun e m => asB (evalE G a e m))
theorem mt_cmp (c : CK X W G k af) {o : CmpOp} {a b : CE} {e e' : Expr} {pos : Pos} (ha : PE X e (Tm X.K W (RD X.K) (evalE G a))) (hb : PE X e' (Tm X.K W (RD X.K) (evalE G b))) (hp : plainE e' = true) : PT X (.Compare e [o] [e'] pos) (TB X W G (.cmp o a b)) :=
  (pt_cmpR (op_cmp c.g c.hu o) ha hb (mark_plain hp)).imp fun _ _ _ h => tm_op (tm_B h)
theorem mt_plain {a : CE} {e : Expr} (ha : PE X e (Tm X.K W (RD X.K) (evalE G a))) (hp : testB e = true) : PT X e (TB X W G a) :=
  (pt_val ha (test_plain hp)).imp fun _ _ _ h => tm_B h
theorem tm_chain {G : Gx} {o o' : CmpOp} {a b c : CE} {σ : L2.St} {H : Hp} {Q : VK} (h : Tm X.K W (RD X.K) (evalE G (.cmp2 o o' a b c)) σ H Q) :
    tChain (R2of X.K W (cmpD G o)) (R2of X.K W (cmpD G o')) (Tm X.K W (RD X.K) (evalE G a)) (Tm X.K W (RD X.K) (evalE G b)) (Tm X.K W (RD X.K) (evalE G c)) σ H Q := by
  obtain ⟨φ, F, en, m, mr, er, q⟩ := h
  refine ⟨φ, F, en, m, mr, er, Pst.bind q fun x m1 φ1 F1 H1 v _ s1 mr1 r1 q1 => ?_⟩
  refine ⟨φ1, F1, en, m1, mr1, er.mono s1.pre s1.fx, q1.bind fun y m2 φ2 F2 H2 w _ s2 mr2 r2 q2 => ?_⟩
  refine ⟨σ, φ2, F2, m2, x, y, mr2, r1.mono s2.pre s2.fx, r2, ?_⟩
  unfold asB at q2
  have er2 := (er.mono s1.pre s1.fx).mono s2.pre s2.fx
  cases hc : cmpD G o x y m2 with
  | stuck => rw [hc] at q2; exact q2.elim
  | exc z m3 => rw [hc] at q2; exact q2
  | ok d m3 =>
    rw [hc] at q2
    rw [Res.bind_ok] at q2
    cases d with
    | bl kk =>
      have q2 : Pst X.K W (RD X.K) σ φ2 F2 H2 (if kk then (evalE G c en m3).bind fun z m => cmpD G o' y z m else .ok (.bl false) m3) Q := q2
      refine fun φ3 F3 H3 b3 s3 mr3 r3 => ?_
      cases r3
      refine ⟨kk, rfl, ?_⟩
      have q3 := Pst.step s3 q2
      cases kk with
      | false =>
        rw [if_neg (by decide)] at q3 ⊢
        exact q3.okQ mr3 (.bl _)
      | true =>
        rw [if_pos rfl] at q3 ⊢
        refine ⟨φ3, F3, en, m3, mr3, er2.mono s3.pre s3.fx, q3.bind fun z m4 φ4 F4 H4 u _ s4 mr4 r4 q4 => ?_⟩
        exact ⟨σ, φ4, F4, m4, y, z, mr4, (r2.mono s3.pre s3.fx).mono s4.pre s4.fx, r4, q4⟩
    | _ => exact q2.elim
theorem me_chain (c : CK X W G k af) {o o' : CmpOp} {a b d : CE} {e e' e'' : Expr} {pos : Pos} (ha : PE X e (Tm X.K W (RD X.K) (evalE G a))) (hb : PE X e' (Tm X.K W (RD X.K) (evalE G b))) (hd : PE X e'' (Tm X.K W (RD X.K) (evalE G d))) (hp : plainE e'' = true) :
    PE X (.Compare e [o, o'] [e', e''] pos) (Tm X.K W (RD X.K) (evalE G (.cmp2 o o' a b d))) :=
  (pe_chain (op_cmp c.g c.hu o) (op_cmp c.g c.hu o') ha hb hd (mark_plain hp)).imp fun _ _ _ h => tm_chain h
theorem mt_chain (c : CK X W G k af) {o o' : CmpOp} {a b d : CE} {e e' e'' : Expr} {pos : Pos} (ha : PE X e (Tm X.K W (RD X.K) (evalE G a))) (hb : PE X e' (Tm X.K W (RD X.K) (evalE G b))) (hd : PE X e'' (Tm X.K W (RD X.K) (evalE G d))) (hp : plainE e'' = true) :
    PT X (.Compare e [o, o'] [e', e''] pos) (TB X W G (.cmp2 o o' a b d)) :=
  (pt_chain (op_cmp c.g c.hu o) (op_cmp c.g c.hu o') ha hb hd (mark_plain hp)).imp fun _ _ _ h => tm_chain (tm_B h)
/-! ### and, or, not, if -/
theorem mt_not {a : CE} {e : Expr} {pos : Pos} (ha : PT X e (TB X W G a)) : PT X (.UnaryOp .Not e pos) (TB X W G (.nott a)) := by
  refine (pt_not ha).imp fun σ H Q ⟨φ, F, en, m, mr, er, q⟩ => ⟨φ, F, en, m, mr, er, ?_⟩
  have q : Pst X.K W RQ σ φ F H (asB ((asB (evalE G a en m)).bind fun b m => .ok (.bl (!b)) m)) Q := q
  show Pst X.K W RQ σ φ F H (asB (evalE G a en m)) (fun c H1 => Q (!c) H1)
  cases hc : asB (evalE G a en m) with
  | stuck => rw [hc] at q; exact q.elim
  | exc z m3 => rw [hc] at q; exact q
  | ok b m3 =>
    rw [hc] at q
    have q : Pst X.K W RQ σ φ F H (.ok (!b) m3) Q := q
    intro φ' F' H' b' st mr' e'
    cases e'
    exact q φ' F' H' _ st mr' rfl
theorem me_not {a : CE} {e : Expr} {pos : Pos} (ha : PE X e (Tm X.K W (RD X.K) (evalE G a))) : PE X (.UnaryOp .Not e pos) (Tm X.K W (RD X.K) (evalE G (.nott a))) := by
  refine (pe_not ha).imp fun σ H Q h => ?_
  have h2 : Tm X.K W RQ (fun e m => asB (evalE G a e m)) σ H (fun b H1 => Q (.bl (!b)) H1) := by
    obtain ⟨φ, F, en, m, mr, er, q⟩ := h
    exact ⟨φ, F, en, m, mr, er, Pst.bind q fun b m1 φ1 F1 H1 b' _ s1 mr1 e1 q1 => by
      cases e1
      exact q1.okQ mr1 (.bl _)⟩
  exact tm_B h2
theorem me_if {t a b : CE} {e e' e'' : Expr} {pos : Pos} (ht : PT X e (TB X W G t)) (ha : PE X e' (Tm X.K W (RD X.K) (evalE G a))) (hb : PE X e'' (Tm X.K W (RD X.K) (evalE G b))) : PE X (.IfExp e e' e'' pos) (Tm X.K W (RD X.K) (evalE G (.ifx t a b))) := by
  refine (pe_ifExp ht ha hb).imp fun σ H Q ⟨φ, F, en, m, mr, er, q⟩ => ⟨φ, F, en, m, mr, er, Pst.bind q fun x m1 φ1 F1 H1 v _ s1 mr1 r1 q1 => ?_⟩
  cases r1
  cases x with
  | true =>
    rw [if_pos rfl]
    exact ⟨φ1, F1, en, m1, mr1, er.mono s1.pre s1.fx, q1⟩
  | false =>
    rw [if_neg (by decide)]
    exact ⟨φ1, F1, en, m1, mr1, er.mono s1.pre s1.fx, q1⟩
/-- a chain of and -/
theorem mw_and1 {a : CE} {e : Expr} {pos : Pos} (ha : PT X e (TB X W G a)) : PW X (.BoolOp .And [e] pos) (Tm X.K W RQ (evalAnd G (.cons a .nil))) := by
  refine (pw_and1 ha).imp fun σ H Q ⟨φ, F, en, m, mr, er, q⟩ => ⟨φ, F, en, m, mr, er, Pst.bind q fun x m1 φ1 F1 H1 v _ s1 mr1 r1 q1 => ?_⟩
  cases r1
  cases x with
  | true => exact q1.okQ mr1 rfl
  | false => exact q1.okQ mr1 rfl
theorem mw_or1 {a : CE} {e : Expr} {pos : Pos} (ha : PT X e (TB X W G a)) : PW X (.BoolOp .Or [e] pos) (Tm X.K W RQ (evalOr G (.cons a .nil))) := by
  refine (pw_or1 ha).imp fun σ H Q ⟨φ, F, en, m, mr, er, q⟩ => ⟨φ, F, en, m, mr, er, Pst.bind q fun x m1 φ1 F1 H1 v _ s1 mr1 r1 q1 => ?_⟩
  cases r1
  cases x with
  | true => exact q1.okQ mr1 rfl
  | false => exact q1.okQ mr1 rfl
theorem mw_and {a : CE} {as : CEs} {e e' : Expr} {es : List Expr} {pos : Pos} (ha : PT X e (TB X W G a)) (hb : PW X (.BoolOp .And (e' :: es) pos) (Tm X.K W RQ (evalAnd G as))) : PW X (.BoolOp .And (e :: e' :: es) pos) (Tm X.K W RQ (evalAnd G (.cons a as))) := by
  refine (pw_and ha hb).imp fun σ H Q ⟨φ, F, en, m, mr, er, q⟩ => ⟨φ, F, en, m, mr, er, Pst.bind q fun x m1 φ1 F1 H1 v _ s1 mr1 r1 q1 => ?_⟩
  cases r1
  cases x with
  | true =>
    rw [if_pos rfl]
    exact ⟨φ1, F1, en, m1, mr1, er.mono s1.pre s1.fx, q1⟩
  | false =>
    rw [if_neg (by decide)]
    exact q1.okQ mr1 rfl
theorem mw_or {a : CE} {as : CEs} {e e' : Expr} {es : List Expr} {pos : Pos} (ha : PT X e (TB X W G a)) (hb : PW X (.BoolOp .Or (e' :: es) pos) (Tm X.K W RQ (evalOr G as))) : PW X (.BoolOp .Or (e :: e' :: es) pos) (Tm X.K W RQ (evalOr G (.cons a as))) := by
  refine (pw_or ha hb).imp fun σ H Q ⟨φ, F, en, m, mr, er, q⟩ => ⟨φ, F, en, m, mr, er, Pst.bind q fun x m1 φ1 F1 H1 v _ s1 mr1 r1 q1 => ?_⟩
  cases r1
  cases x with
  | true =>
    rw [if_pos rfl]
    exact q1.okQ mr1 rfl
  | false =>
    rw [if_neg (by decide)]
    exact ⟨φ1, F1, en, m1, mr1, er.mono s1.pre s1.fx, q1⟩
theorem tm_bl {f : EnvD → Mem → Res Bool} {σ : L2.St} {H : Hp} {Q : Bool → Hp → Prop} (h : Tm X.K W RQ (fun e m => asB ((f e m).bind fun b m => .ok (.bl b) m)) σ H Q) : Tm X.K W RQ f σ H Q := by
  obtain ⟨φ, F, en, m, mr, er, q⟩ := h
  refine ⟨φ, F, en, m, mr, er, ?_⟩
  have q : Pst X.K W RQ σ φ F H (asB ((f en m).bind fun b m => .ok (.bl b) m)) Q := q
  cases hc : f en m with
  | stuck => rw [hc] at q; exact q.elim
  | exc z m3 => rw [hc] at q; exact q
  | ok b m3 => rw [hc] at q; exact q
/-- .. as values -/
abbrev TV (X : Cx) (W : WX) (f : EnvD → Mem → Res Bool) : TE := Tm X.K W (RD X.K) fun e m => (f e m).bind fun b m => .ok (.bl b) m
theorem me_one {op : BoolOp} {a : CE} {e : Expr} {pos : Pos} {f : EnvD → Mem → Res Bool} (hf : ∀ e m, f e m = (asB (evalE G a e m)).bind fun b m => if b then .ok true m else .ok false m) (ha : PE X e (Tm X.K W (RD X.K) (evalE G a))) : PE X (.BoolOp op [e] pos) (TV X W f) := by
  refine (pe_one ha).imp fun σ H Q ⟨φ, F, en, m, mr, er, q⟩ => ⟨φ, F, en, m, mr, er, ?_⟩
  have q : Pst X.K W (RD X.K) σ φ F H ((f en m).bind fun b m => .ok (.bl b) m) Q := q
  rw [hf] at q
  cases hc : evalE G a en m with
  | stuck => rw [hc] at q; exact q.elim
  | exc z m3 => rw [hc] at q; exact q
  | ok d m3 =>
    rw [hc] at q
    cases d with
    | bl b => cases b <;> exact q
    | _ => exact q.elim
theorem me_and {a : CE} {as : CEs} {e e' : Expr} {es : List Expr} {pos : Pos} (ha : PE X e (Tm X.K W (RD X.K) (evalE G a))) (hb : PE X (.BoolOp .And (e' :: es) pos) (TV X W (evalAnd G as))) : PE X (.BoolOp .And (e :: e' :: es) pos) (TV X W (evalAnd G (.cons a as))) := by
  refine (pe_and ha hb).imp fun σ H Q ⟨φ, F, en, m, mr, er, q⟩ => ⟨φ, F, en, m, mr, er, ?_⟩
  cases hc : evalE G a en m with
  | stuck =>
    have q : Pst X.K W (RD X.K) σ φ F H (((asB (evalE G a en m)).bind fun b m => if b then evalAnd G as en m else .ok false m).bind fun b m => .ok (.bl b) m) Q := q
    rw [hc] at q; exact q.elim
  | exc z m3 =>
    have q : Pst X.K W (RD X.K) σ φ F H (((asB (evalE G a en m)).bind fun b m => if b then evalAnd G as en m else .ok false m).bind fun b m => .ok (.bl b) m) Q := q
    rw [hc] at q; exact q
  | ok d m3 =>
    have q : Pst X.K W (RD X.K) σ φ F H (((asB (evalE G a en m)).bind fun b m => if b then evalAnd G as en m else .ok false m).bind fun b m => .ok (.bl b) m) Q := q
    rw [hc] at q
    cases d with
    | bl b =>
      have q : Pst X.K W (RD X.K) σ φ F H ((if b then evalAnd G as en m3 else .ok false m3).bind fun b m => .ok (.bl b) m) Q := q
      intro φ1 F1 H1 v s1 mr1 r1
      cases r1
      refine ⟨b, rfl, ?_⟩
      have q1 := Pst.step s1 q
      cases b with
      | true =>
        rw [if_pos rfl] at q1 ⊢
        exact ⟨φ1, F1, en, m3, mr1, er.mono s1.pre s1.fx, q1⟩
      | false =>
        rw [if_neg (by decide)] at q1 ⊢
        exact q1.okQ mr1 (.bl _)
    | _ => exact q.elim
theorem me_or {a : CE} {as : CEs} {e e' : Expr} {es : List Expr} {pos : Pos} (ha : PE X e (Tm X.K W (RD X.K) (evalE G a))) (hb : PE X (.BoolOp .Or (e' :: es) pos) (TV X W (evalOr G as))) : PE X (.BoolOp .Or (e :: e' :: es) pos) (TV X W (evalOr G (.cons a as))) := by
  refine (pe_or ha hb).imp fun σ H Q ⟨φ, F, en, m, mr, er, q⟩ => ⟨φ, F, en, m, mr, er, ?_⟩
  cases hc : evalE G a en m with
  | stuck =>
    have q : Pst X.K W (RD X.K) σ φ F H (((asB (evalE G a en m)).bind fun b m => if b then .ok true m else evalOr G as en m).bind fun b m => .ok (.bl b) m) Q := q
    rw [hc] at q; exact q.elim
  | exc z m3 =>
    have q : Pst X.K W (RD X.K) σ φ F H (((asB (evalE G a en m)).bind fun b m => if b then .ok true m else evalOr G as en m).bind fun b m => .ok (.bl b) m) Q := q
    rw [hc] at q; exact q
  | ok d m3 =>
    have q : Pst X.K W (RD X.K) σ φ F H (((asB (evalE G a en m)).bind fun b m => if b then .ok true m else evalOr G as en m).bind fun b m => .ok (.bl b) m) Q := q
    rw [hc] at q
    cases d with
    | bl b =>
      have q : Pst X.K W (RD X.K) σ φ F H ((if b then .ok true m3 else evalOr G as en m3).bind fun b m => .ok (.bl b) m) Q := q
      intro φ1 F1 H1 v s1 mr1 r1
      cases r1
      refine ⟨b, rfl, ?_⟩
      have q1 := Pst.step s1 q
      cases b with
      | true =>
        rw [if_pos rfl] at q1 ⊢
        exact q1.okQ mr1 (.bl _)
      | false =>
        rw [if_neg (by decide)] at q1 ⊢
        exact ⟨φ1, F1, en, m3, mr1, er.mono s1.pre s1.fx, q1⟩
    | _ => exact q.elim
/-! ### lists of arguments, displays -/
abbrev TL (X : Cx) (W : WX) (G : Gx) (as : CEs) : TA := Tm X.K W (RL X.K) (evalL G as)
theorem ma_nil : PA X [] (TL X W G .nil) := pa_nil.imp fun σ H Q ⟨φ, F, en, m, mr, er, q⟩ => q.okQ mr .nil
theorem ma_cons {a : CE} {as : CEs} {e : Expr} {es : List Expr} (ha : PE X e (Tm X.K W (RD X.K) (evalE G a))) (hr : PA X es (TL X W G as)) (hp : plainE e = true) : PA X (e :: es) (TL X W G (.cons a as)) := by
  refine (pa_cons ha hr (star_plain hp)).imp fun σ H Q ⟨φ, F, en, m, mr, er, q⟩ => ⟨φ, F, en, m, mr, er, Pst.bind q fun x m1 φ1 F1 H1 v _ s1 mr1 r1 q1 => ?_⟩
  refine ⟨φ1, F1, en, m1, mr1, er.mono s1.pre s1.fx, q1.bind fun y m2 φ2 F2 H2 w _ s2 mr2 r2 q2 => ?_⟩
  exact q2.okQ mr2 (.cons (r1.mono s2.pre s2.fx) r2)
theorem me_tup {as : CEs} {es : List Expr} {pos : Pos} {n : Nat} (h : PA X es (TL X W G as)) : PE X (.Tuple es n pos) (Tm X.K W (RD X.K) (evalE G (.tup as))) := by
  refine (pe_tup h).imp fun σ H Q ⟨φ, F, en, m, mr, er, q⟩ => ⟨φ, F, en, m, mr, er, Pst.bind q fun ds m1 φ1 F1 H1 vs _ s1 mr1 r1 q1 => ?_⟩
  split at q1
  · rename_i hl
    exact ⟨by rw [r1.len]; exact line_le hl, fun p hp => q1.frozT mr1 hp r1⟩
  · exact q1.elim
theorem me_lst {mu : Bool} {as : CEs} {es : List Expr} {pos : Pos} (h : PA X es (TL X W G as)) : PE X (.List es pos) (Tm X.K W (RD X.K) (evalE G (.lst mu as))) := by
  refine (pe_lst h).imp fun σ H Q ⟨φ, F, en, m, mr, er, q⟩ => ⟨φ, F, en, m, mr, er, Pst.bind q fun ds m1 φ1 F1 H1 vs _ s1 mr1 r1 q1 => ?_⟩
  split at q1
  · rename_i hl
    exact ⟨by rw [r1.len]; exact line_le hl, fun p hp => q1.newL mr1 hp r1⟩
  · exact q1.elim
/-! ### subscripts, slices -/
theorem me_idx (c : CK X W G k af) {a b : CE} {e e' : Expr} {pos : Pos} (ha : PE X e (Tm X.K W (RD X.K) (evalE G a))) (hb : PE X e' (Tm X.K W (RD X.K) (evalE G b))) (hp : plainE e' = true) : PE X (.Subscript e e' pos) (Tm X.K W (RD X.K) (evalE G (.idx a b))) :=
  (pe_ix (ix_all c.g c.hu) ha hb (sub_plain hp)).imp fun _ _ _ h => tm_op h
abbrev TOo (X : Cx) (W : WX) (G : Gx) (a : CO) : TO := Tm X.K W RQ (evalO G a)
theorem mo_no : PO X none (TOo X W G .no) := po_none.imp fun σ H Q ⟨φ, F, en, m, mr, er, q⟩ => q.okQ mr rfl
theorem mo_yes {a : CE} {e : Expr} (ha : PE X e (Tm X.K W (RD X.K) (evalE G a))) : PO X (some e) (TOo X W G (.yes a)) := by
  refine (po_some ha).imp fun σ H Q ⟨φ, F, en, m, mr, er, q⟩ => ⟨φ, F, en, m, mr, er, Pst.bind q fun x m1 φ1 F1 H1 v _ s1 mr1 r1 q1 => ?_⟩
  obtain ⟨o, e, q2⟩ := q1.retO
  cases x with
  | int i =>
    cases e
    cases r1
    exact ⟨i, rfl, q2.okQ mr1 rfl⟩
  | _ => cases e
theorem me_sli {a : CE} {lo hi : CO} {e : Expr} {l h : Option Expr} {pos p2 : Pos} (ha : PE X e (Tm X.K W (RD X.K) (evalE G a))) (hl : PO X l (TOo X W G lo)) (hh : PO X h (TOo X W G hi)) : PE X (.Subscript e (.Slice l h none p2) pos) (Tm X.K W (RD X.K) (evalE G (.sli a lo hi))) := by
  refine (pe_slice (sl_all (W := W)) ha hl hh).imp fun σ H Q ⟨φ, F, en, m, mr, er, q⟩ => ⟨φ, F, en, m, mr, er, Pst.bind q fun x m1 φ1 F1 H1 v _ s1 mr1 r1 q1 => ?_⟩
  refine ⟨φ1, F1, en, m1, mr1, er.mono s1.pre s1.fx, q1.bind fun y m2 φ2 F2 H2 w _ s2 mr2 r2 q2 => ?_⟩
  cases r2
  refine ⟨φ2, F2, en, m2, mr2, (er.mono s1.pre s1.fx).mono s2.pre s2.fx, q2.bind fun z m3 φ3 F3 H3 u _ s3 mr3 r3 q3 => ?_⟩
  cases r3
  exact ⟨σ, φ3, F3, m3, x, mr3, (r1.mono s2.pre s2.fx).mono s3.pre s3.fx, q3⟩
theorem me_rev {a : CE} {e : Expr} {n : Nat} {p1 p2 p3 pos : Pos} (ha : PE X e (Tm X.K W (RD X.K) (evalE G a))) : PE X (.Subscript e (.Slice none none (some (.UnaryOp .USub (.Constant (.int 1) n p1) p2)) p3) pos) (Tm X.K W (RD X.K) (evalE G (.rev a))) := by
  refine (pe_revL ha).imp fun σ H Q ⟨φ, F, en, m, mr, er, q⟩ => ⟨φ, F, en, m, mr, er, Pst.bind q fun x m1 φ1 F1 H1 v _ s1 mr1 r1 q1 => ?_⟩
  split at q1
  · rename_i xs hx
    obtain ⟨a, ws, rfl, h2, r2⟩ := getL_rep mr1 hx r1
    exact ⟨a, ws, rfl, SqL.of h2, fun p hp => q1.frozL mr1 hp r2.reverse⟩
  · exact q1.elim
/-! ### attributes -/
theorem RepF.look {K : PySem.W.Frag} {φ : List Addr} {F : Hp} {f : Str} : ∀ {ds : List (Str × D)} {vs : List (Str × V)}, RepF K φ F ds vs → (∀ d, lookS ds f = some d → ∃ v, vs.lookup f = some v ∧ Rep K φ F d v) ∧ (lookS ds f = none → vs.lookup f = none)
  | _, _, .nil => ⟨fun _ h => (by simp [lookS] at h), fun _ => rfl⟩
  | _, _, .cons (f := g) (d := d) (v := v) h r => by
    obtain ⟨a, b⟩ := RepF.look (f := f) r
    by_cases e : (f == g) = true
    · refine ⟨fun d' hd => ?_, fun hd => ?_⟩
      · simp [lookS, List.lookup, e] at hd
        subst hd
        exact ⟨v, by simp [List.lookup, e], h⟩
      · simp [lookS, List.lookup, e] at hd
    · have e : (f == g) = false := by simpa using e
      refine ⟨fun d' hd => ?_, fun hd => ?_⟩
      · simp only [lookS, List.lookup, e] at hd
        obtain ⟨w, h1, h2⟩ := a d' hd
        exact ⟨w, by simp only [List.lookup, e]; exact h1, h2⟩
      · simp only [lookS, List.lookup, e] at hd
        simp only [List.lookup, e]
        exact b hd
theorem me_att (c : CK X W G k af) {a : CE} {f : Str} {e : Expr} {pos : Pos} (ha : PE X e (Tm X.K W (RD X.K) (evalE G a))) (hs : supB e = false) : PE X (.Attribute e f pos) (Tm X.K W (RD X.K) (evalE G (.att a f))) := by
  refine (pe_fld ha (sup_base hs)).imp fun σ H Q ⟨φ, F, en, m, mr, er, q⟩ => ⟨φ, F, en, m, mr, er, Pst.bind q fun x m1 φ1 F1 H1 v _ s1 mr1 r1 q1 => ?_⟩
  unfold attD at q1
  split at q1
  · split at q1
    · rename_i C fs e1
      split at q1
      · rename_i hf
        obtain ⟨d, e2, q2⟩ := q1.retO
        cases r1 with
        | @ptr a p hn =>
          obtain ⟨_, dx, vs, h1, h2⟩ := mr1.cell _ a _ hn e1
          obtain ⟨cl, na⟩ := c.g.fld C f hf
          obtain ⟨w, h3, h4⟩ := (RepF.look h2).1 d e2
          exact ⟨a, _, dx, vs, w, rfl, h1, cl, na, h3, q2.okQ mr1 h4⟩
      · exact q1.elim
    · exact q1.elim
  · exact q1.elim
/-! ### calls of built-ins -/
theorem bi_boot (f : Bi) : bootBuiltins f.nm = some (match f with
    | .len => Value.builtin "len"
    | .tup => .type "tuple"
    | .str => .type "str"
    | .int => .type "int"
    | .max => .builtin "max"
    | .min => .builtin "min") := by
  cases f <;> decide +kernel
theorem tm_cb {f : List D → Mem → Res D} {as : CEs} {σ : L2.St} {H : Hp} {Q : VK} (h : Tm X.K W (RD X.K) (fun e m => (evalL G as e m).bind fun vs m => f vs m) σ H Q) : tCB (CVof X.K W f) (TL X W G as) σ H Q := by
  obtain ⟨φ, F, en, m, mr, er, q⟩ := h
  exact ⟨φ, F, en, m, mr, er, q.bind fun ds m1 φ1 F1 H1 vs _ s1 mr1 r1 q1 => ⟨σ, φ1, F1, m1, ds, mr1, r1, q1⟩⟩
theorem me_blt (c : CK X W G k af) {f : Bi} {as : CEs} {e : Expr} {es : List Expr} {p pos : Pos} (hc : (X.calm || match f with | .max => false | .min => false | _ => true) = true) (hg : Gl X f.nm) (h : PA X (e :: es) (TL X W G as)) (hp : plainE e = true) (hb : (backTo pos (starEach es X.env)).any (·.1) = false) :
    PE X (.Call (.Name f.nm p) (e :: es) [] pos) (Tm X.K W (RD X.K) (evalE G (.blt f as))) := by
  have hv := bi_boot f
  have hn : f.nm ≠ "__name__" := by cases f <;> decide +kernel
  have hm : X.mg f.nm = none := c.g.blt _ (by cases f <;> decide +kernel)
  have hd : (f.nm == ("__debug__" : Str)) = false := by cases f <;> decide +kernel
  cases f with
  | len => exact (pe_callB cv_len hg hm hv h hn hd (star_plain hp) hb).imp fun _ _ _ h => tm_cb h
  | tup => exact (pe_callTy cv_tup hg hm hv h hn hd (star_plain hp) hb).imp fun _ _ _ h => tm_cb h
  | str => exact (pe_callTy cv_str hg hm hv h hn hd (star_plain hp) hb).imp fun _ _ _ h => tm_cb h
  | int => exact (pe_callTy cv_int hg hm hv h hn hd (star_plain hp) hb).imp fun _ _ _ h => tm_cb h
  | max => exact (pe_callB (cv_max (by simpa using hc)) hg hm hv h hn hd (star_plain hp) hb).imp fun _ _ _ h => tm_cb h
  | min => exact (pe_callB (cv_min (by simpa using hc)) hg hm hv h hn hd (star_plain hp) hb).imp fun _ _ _ h => tm_cb h
theorem me_lof (c : CK X W G k af) {mu : Bool} {a : CE} {e : Expr} {p pos : Pos} (hg : Gl X "list") (ha : PE X e (Tm X.K W (RD X.K) (evalE G a))) (hp : plainE e = true) : PE X (.Call (.Name "list" p) [e] [] pos) (Tm X.K W (RD X.K) (evalE G (.lof mu a))) := by
  have hv : bootBuiltins "list" = some (.type "list") := by decide +kernel
  have hm : X.mg "list" = none := c.g.blt _ (by decide +kernel)
  refine (pe_callTy (cv_lof mu) hg hm hv (ma_cons ha (ma_nil (W := W) (G := G)) hp) (by decide +kernel) (by decide +kernel) (star_plain hp) rfl).imp fun σ H Q h => tm_cb ?_
  obtain ⟨φ, F, en, m, mr, er, q⟩ := h
  refine ⟨φ, F, en, m, mr, er, ?_⟩
  show Pst X.K W (RD X.K) σ φ F H (((evalE G a en m).bind fun x m => (Res.ok [] m).bind fun vs m => .ok (x :: vs) m).bind fun vs m => lofR mu vs m) Q
  have q : Pst X.K W (RD X.K) σ φ F H ((evalE G a en m).bind fun x m => match lofD x m with
    | some xs => newL mu xs m
    | none => .stuck) Q := q
  cases hc : evalE G a en m with
  | stuck => rw [hc] at q; exact q.elim
  | exc z m3 => rw [hc] at q; exact q
  | ok d m3 => rw [hc] at q; exact q
/-! ### methods of built-ins -/
theorem tm_bm {T : String} {n : Me} {o : CE} {as : CEs} {σ : L2.St} {H : Hp} {Q : VK} (ht : ∀ φ F H m d v, MR X.K φ F H m → Rep X.K φ F d v → kindOk n d m = true → tyV X.K T v H) (h : Tm X.K W (RD X.K) (evalE G (.mth o n as)) σ H Q) :
    tBM X.K T (MVof X.K W n) (Tm X.K W (RD X.K) (evalE G o)) (TL X W G as) σ H Q := by
  obtain ⟨φ, F, en, m, mr, er, q⟩ := h
  refine ⟨φ, F, en, m, mr, er, Pst.bind q fun d m1 φ1 F1 H1 v _ s1 mr1 r1 q1 => ?_⟩
  split at q1
  · rename_i hk
    refine ⟨ht _ _ _ _ _ _ mr1 r1 hk, φ1, F1, en, m1, mr1, er.mono s1.pre s1.fx, q1.bind fun ds m2 φ2 F2 H2 vs _ s2 mr2 r2 q2 => ?_⟩
    exact ⟨σ, φ2, F2, m2, d, ds, mr2, r1.mono s2.pre s2.fx, r2, q2⟩
  · exact q1.elim
theorem tm_bm0 {T : String} {n : Me} {o : CE} {σ : L2.St} {H : Hp} {Q : VK} (ht : ∀ φ F H m d v, MR X.K φ F H m → Rep X.K φ F d v → kindOk n d m = true → tyV X.K T v H) (h : Tm X.K W (RD X.K) (evalE G (.mth o n .nil)) σ H Q) :
    tBM0 X.K T (MVof X.K W n) (Tm X.K W (RD X.K) (evalE G o)) σ H Q := by
  obtain ⟨φ, F, en, m, mr, er, q⟩ := h
  refine ⟨φ, F, en, m, mr, er, Pst.bind q fun d m1 φ1 F1 H1 v _ s1 mr1 r1 q1 => ?_⟩
  split at q1
  · rename_i hk
    exact ⟨ht _ _ _ _ _ _ mr1 r1 hk, σ, φ1, F1, m1, d, [], mr1, r1, .nil, q1⟩
  · exact q1.elim
theorem getL_ty {K : PySem.W.Frag} {φ : List Addr} {F H : Hp} {m : Mem} {d : D} {v : V} (mr : MR K φ F H m) (r : Rep K φ F d v) (h : (getL m d).isSome = true) : tyV K "list" v H := by
  obtain ⟨xs, e⟩ := Option.isSome_iff_exists.mp h
  obtain ⟨a, ys, rfl, h1, r1⟩ := getL_rep mr e r
  exact .inl ⟨rfl, ys, SqL.of h1⟩
theorem ty_dct {K : PySem.W.Frag} {φ : List Addr} {F H : Hp} {m : Mem} {d : D} {v : V} (mr : MR K φ F H m) (r : Rep K φ F d v) (h : kindOk .get d m = true) : tyV K "dict" v H := by
  have h : (getK m d).isSome = true := h
  obtain ⟨kvs, e⟩ := Option.isSome_iff_exists.mp h
  obtain ⟨a, ws, rfl, h2, r2⟩ := getK_rep mr e r
  exact .inr (.inr (.inl ⟨rfl, .inl ⟨_, h2⟩⟩))
theorem ty_dct0 {K : PySem.W.Frag} {φ : List Addr} {F H : Hp} {m : Mem} {d : D} {v : V} (mr : MR K φ F H m) (r : Rep K φ F d v) (h : kindOk .upd d m = true) : tyV K "dict" v H := by
  cases d with
  | ptr p =>
    simp only [kindOk] at h
    split at h
    · rename_i kvs e
      exact ty_dct mr r (by simp only [kindOk, getK, e]; rfl)
    · cases h
  | _ => cases h
theorem ty_str {K : PySem.W.Frag} {φ : List Addr} {F H : Hp} {m : Mem} {d : D} {v : V} (r : Rep K φ F d v) (h : kindOk .join d m = true ∨ kindOk .split d m = true) : tyV K "str" v H := by
  rcases h with h | h <;> cases r <;> first | rfl | cases h
theorem me_mth (c : CK X W G k af) {n : Me} {o : CE} {as : CEs} {e e1 : Expr} {es : List Expr} {apos pos : Pos} (ho : PE X e (Tm X.K W (RD X.K) (evalE G o))) (hs : supB e = false) (hl : (apos.endLine == pos.line) = true) (h : PA X (e1 :: es) (TL X W G as)) (hp : plainE e1 = true)
    (hst : (starEach es X.env).map (·.1) = es.map fun _ => false) (hn : (e1 :: es).length < 20) : PE X (.Call (.Attribute e n.nm apos) (e1 :: es) [] pos) (Tm X.K W (RD X.K) (evalE G (.mth o n as))) := by
  have hfew : ((backTo pos (starEach (e1 :: es) X.env)).all (fun x => !x.1) && (backToKw pos (keywordEach [] X.env)).all (fun x => x.1.isSome)
      && decide ((e1 :: es).length + ([] : List Keyword).length + (if ([] : List Keyword).isEmpty then 0 else 1) < 30)) = true := by
    have h1 : (backTo pos (starEach (e1 :: es) X.env)).all (fun x => !x.1) = true := by
      refine back_all (es := e1 :: es) ?_
      rw [star_plain hp, List.map_cons, List.map_cons, hst]
    have h2 : (e1 :: es).length + ([] : List Keyword).length + (if ([] : List Keyword).isEmpty then 0 else 1) < 30 := by
      show (e1 :: es).length + 0 + 0 < 30
      omega
    rw [h1]
    simp only [h2, decide_true, Bool.and_true, Bool.true_and]
    rfl
  have hb : (backTo pos (starEach es X.env)).any (·.1) = false := back_any hst
  cases n with
  | app => exact (pe_bm PySem.F.plainAttrs_list PySem.F.slot_list_append PySem.F.type_list_append mv_app ho h (sup_base hs) hfew hl (star_plain hp) hb).imp fun _ _ _ h => tm_bm (fun _ _ _ _ _ _ mr r q => isLstP_rep mr r q) h
  | ext => exact (pe_bm PySem.F.plainAttrs_list PySem.F.slot_list_extend PySem.F.type_list_extend mv_ext ho h (sup_base hs) hfew hl (star_plain hp) hb).imp fun _ _ _ h => tm_bm (fun _ _ _ _ _ _ mr r q => isLstP_rep mr r q) h
  | pop => exact (pe_bm PySem.F.plainAttrs_list PySem.F.slot_list_pop PySem.F.type_list_pop mv_pop ho h (sup_base hs) hfew hl (star_plain hp) hb).imp fun _ _ _ h => tm_bm (fun _ _ _ _ _ _ mr r q => isLstP_rep mr r q) h
  | get => exact (pe_bm PySem.F.plainAttrs_dict PySem.F.slot_dict_get PySem.F.type_dict_get (mv_get c.hu) ho h (sup_base hs) hfew hl (star_plain hp) hb).imp fun _ _ _ h => tm_bm (fun _ _ _ _ _ _ mr r q => ty_dct mr r q) h
  | join => exact (pe_bm PySem.F.plainAttrs_str PySem.F.slot_str_join PySem.F.type_str_join mv_join ho h (sup_base hs) hfew hl (star_plain hp) hb).imp fun _ _ _ h => tm_bm (fun _ _ _ _ _ _ mr r q => ty_str r (.inl q)) h
  | upd => exact (pe_bm PySem.F.plainAttrs_dict PySem.F.slot_dict_update PySem.F.type_dict_update mv_upd ho h (sup_base hs) hfew hl (star_plain hp) hb).imp fun _ _ _ h => tm_bm (fun _ _ _ _ _ _ mr r q => ty_dct0 mr r q) h
  | cnt => exact (pe_bm PySem.F.plainAttrs_list PySem.F.slot_list_count PySem.F.type_list_count mv_cnt ho h (sup_base hs) hfew hl (star_plain hp) hb).imp fun _ _ _ h => tm_bm (fun _ _ _ _ _ _ mr r q => getL_ty mr r q) h
  | idx => exact (pe_bm PySem.F.plainAttrs_list PySem.F.slot_list_index PySem.F.type_list_index mv_idx ho h (sup_base hs) hfew hl (star_plain hp) hb).imp fun _ _ _ h => tm_bm (fun _ _ _ _ _ _ mr r q => getL_ty mr r q) h
  | clr => exact (pe_bm PySem.F.plainAttrs_list PySem.F.slot_list_clear PySem.F.type_list_clear mv_clr ho h (sup_base hs) hfew hl (star_plain hp) hb).imp fun _ _ _ h => tm_bm (fun _ _ _ _ _ _ mr r q => isLstP_rep mr r q) h
  | rvs => exact (pe_bm PySem.F.plainAttrs_list PySem.F.slot_list_reverse PySem.F.type_list_reverse mv_rvs ho h (sup_base hs) hfew hl (star_plain hp) hb).imp fun _ _ _ h => tm_bm (fun _ _ _ _ _ _ mr r q => isLstP_rep mr r q) h
  | split => exact (pe_bm PySem.F.plainAttrs_str PySem.F.slot_str_split PySem.F.type_str_split mv_split ho h (sup_base hs) hfew hl (star_plain hp) hb).imp fun _ _ _ h => tm_bm (fun _ _ _ _ _ _ mr r q => ty_str r (.inr q)) h
theorem me_pop0 {o : CE} {e : Expr} {apos pos : Pos} (ho : PE X e (Tm X.K W (RD X.K) (evalE G o))) (hs : supB e = false) (hl : (apos.endLine == pos.line) = true) : PE X (.Call (.Attribute e Me.pop.nm apos) [] [] pos) (Tm X.K W (RD X.K) (evalE G (.mth o .pop .nil))) :=
  (pe_bm0 PySem.F.plainAttrs_list PySem.F.slot_list_pop PySem.F.type_list_pop mv_pop ho (sup_base hs) hl).imp fun _ _ _ h => tm_bm0 (fun _ _ _ _ _ _ mr r q => isLstP_rep mr r q) h
theorem me_clr0 {o : CE} {e : Expr} {apos pos : Pos} (ho : PE X e (Tm X.K W (RD X.K) (evalE G o))) (hs : supB e = false) (hl : (apos.endLine == pos.line) = true) : PE X (.Call (.Attribute e Me.clr.nm apos) [] [] pos) (Tm X.K W (RD X.K) (evalE G (.mth o .clr .nil))) :=
  (pe_bm0 PySem.F.plainAttrs_list PySem.F.slot_list_clear PySem.F.type_list_clear mv_clr ho (sup_base hs) hl).imp fun _ _ _ h => tm_bm0 (fun _ _ _ _ _ _ mr r q => isLstP_rep mr r q) h
theorem me_rvs0 {o : CE} {e : Expr} {apos pos : Pos} (ho : PE X e (Tm X.K W (RD X.K) (evalE G o))) (hs : supB e = false) (hl : (apos.endLine == pos.line) = true) : PE X (.Call (.Attribute e Me.rvs.nm apos) [] [] pos) (Tm X.K W (RD X.K) (evalE G (.mth o .rvs .nil))) :=
  (pe_bm0 PySem.F.plainAttrs_list PySem.F.slot_list_reverse PySem.F.type_list_reverse mv_rvs ho (sup_base hs) hl).imp fun _ _ _ h => tm_bm0 (fun _ _ _ _ _ _ mr r q => isLstP_rep mr r q) h
end
end Mi

set_option Elab.async false
set_option linter.all false
set_option maxRecDepth 100000
set_option maxHeartbeats 4000000
/-! MiE3: what is under way (a new object that nobody names yet); dict displays; targets, walks, comprehensions. -/
namespace L2
open PySem
section
variable {X : Cx}
theorem PG.imp {e : Expr} {t t' : TG} (h : PG X e t) (i : ∀ v σ H Q, t' v σ H Q → t v σ H Q) : PG X e t' := ⟨fun pins s σ H v u Q I r q => h.run pins s σ H v u Q I r (i _ _ _ _ q)⟩
theorem PG.or {e : Expr} {t t' : TG} (h : PG X e t) (h' : PG X e t') : PG X e (fun v σ H Q => t v σ H Q ∨ t' v σ H Q) := ⟨fun pins s σ H v u Q I r q => q.elim (h.run pins s σ H v u Q I r) (h'.run pins s σ H v u Q I r)⟩
theorem PI.imp {tg e : Expr} {t t' : TI} (h : PI X tg e t) (i : ∀ σ H Q, t' σ H Q → t σ H Q) : PI X tg e t' := ⟨fun pins s σ H Q I q => h.run pins s σ H Q I (i _ _ _ q)⟩
theorem PI.or {tg e : Expr} {t t' : TI} (h : PI X tg e t) (h' : PI X tg e t') : PI X tg e (fun σ H Q => t σ H Q ∨ t' σ H Q) := ⟨fun pins s σ H Q I q => q.elim (h.run pins s σ H Q I) (h'.run pins s σ H Q I)⟩
theorem PTs.imp {e : List Expr} {t t' : TT} (h : PTs X e t) (i : ∀ σ H Q, t' σ H Q → t σ H Q) : PTs X e t' := ⟨fun pins s σ H Q I q => h.run pins s σ H Q I (i _ _ _ q)⟩
end
end L2
namespace Mi
open PySem L2
variable [WW]
/-! ### an object under way -/
section
variable {K : PySem.W.Frag} {φ φ' : List Addr} {F F' H H' : Hp} {m m' : Mem} {p : Addr} {o o' : HO}
theorem MR.noF (r : MR K φ F H m) (hp : H p = none) : F p = none := by
  cases e : F p with
  | none => rfl
  | some u => rw [r.ext _ _ e] at hp; cases hp
theorem MR.noφ (r : MR K φ F H m) (hp : H p = none) : p ∉ φ := fun h => r.there h hp
theorem MR.alloc (r : MR K φ F H m) (hp : H p = none) : MR K φ F (upd H p o) m := by
  refine ⟨fun a u e => ?_, r.len, r.nod, fun n a c h1 h2 => ?_, tabs_new hp r.tab, r.ntb⟩
  · rw [upd_ne (ne_of_none e (r.noF hp))]; exact r.ext _ _ e
  · obtain ⟨q, x⟩ := r.cell n a c h1 h2
    have ne : a ≠ p := fun e => r.noφ hp (e ▸ List.mem_of_getElem? h1)
    exact ⟨q, x.mono Pre.refl Sub.refl fun o e => by rw [upd_ne ne]; exact e⟩
/-- p is under way: it holds o, no handle, nothing frozen -/
structure Pend (φ : List Addr) (F H : Hp) (p : Addr) (o : HO) (φ' : List Addr) (F' H' : Hp) : Prop where
  tc : NTC o
  st : Stp φ F (upd H p o) φ' F' H'
  no : H p = none
  hp : H' p = some o
  nφ : p ∉ φ'
  nF : F' p = none
theorem Pend.start [tc : NTC o] (r : MR K φ F H m) (hp : H p = none) : Pend φ F H p o φ F (upd H p o) := ⟨tc, Stp.refl, hp, upd_same, r.noφ hp, r.noF hp⟩
theorem Pend.step {φ2 : List Addr} {F2 H2 : Hp} (a : Pend φ F H p o φ' F' H') (s : Stp φ' F' H' φ2 F2 H2) : Pend φ F H p o φ2 F2 H2 := by
  letI := a.tc
  refine ⟨a.tc, a.st.trans s, a.no, s.keep _ _ a.hp a.nφ NTC.tbl, fun h => ?_, ?_⟩
  · rcases s.nw _ h with q | q
    · exact a.nφ q
    · exact Nt.not a.hp q
  · cases e : F2 p with
    | none => rfl
    | some u =>
      rcases s.new _ _ e with q | q
      · rw [a.nF] at q; cases q
      · exact absurd q (Nt.not a.hp)
theorem MR.other [tc : NTC o] (r : MR K φ' F' H' m) (hp : H' p = some o) (nφ : p ∉ φ') (nF : F' p = none) : MR K φ' F' (upd H' p o') m := by
  refine ⟨fun a u e => ?_, r.len, r.nod, fun n a c h1 h2 => ?_, tabs_upd (fun o e => by rw [hp] at e; cases e; exact tc.h) r.tab, r.ntb⟩
  · rw [upd_ne (ne_of_none e nF)]; exact r.ext _ _ e
  · obtain ⟨q, x⟩ := r.cell n a c h1 h2
    have ne : a ≠ p := fun e => nφ (e ▸ List.mem_of_getElem? h1)
    exact ⟨q, x.mono Pre.refl Sub.refl fun o e => by rw [upd_ne ne]; exact e⟩
/-- it is changed -/
theorem Pend.put [tc' : NTC o'] (a : Pend φ F H p o φ' F' H') : Pend φ F H p o' φ' F' (upd H' p o') := by
  letI := a.tc
  refine ⟨tc', ⟨a.st.pre, a.st.fx, fun b u e hb ht => ?_, fun b u e => ?_, fun b e => ?_, fun b h => ?_⟩, a.no, upd_same, a.nφ, a.nF⟩
  · by_cases h : b = p
    · subst h; rw [upd_same] at e ⊢; exact e
    · rw [upd_ne h] at e ⊢
      exact a.st.keep b u (by rw [upd_ne h]; exact e) hb ht
  · rcases a.st.new b u e with q | q
    · exact .inl q
    · by_cases h : b = p
      · subst h; exact absurd q (Nt.not upd_same)
      · exact .inr ((Nt.upd_ne h).mpr ((Nt.upd_ne h).mp q))
  · by_cases h : b = p
    · subst h; exact absurd e (Nt.not upd_same)
    · exact (Nt.upd_ne h).mpr ((Nt.upd_ne h).mp (a.st.dom b ((Nt.upd_ne h).mp e)))
  · by_cases hb : b = p
    · subst hb; exact absurd h a.nφ
    · rcases a.st.nw b h with q | q
      · exact .inl q
      · exact .inr ((Nt.upd_ne hb).mpr ((Nt.upd_ne hb).mp q))
/-- it is frozen -/
theorem Pend.froz (a : Pend φ F H p o φ' F' H') (r : MR K φ' F' H' m) : MR K φ' (upd F' p o) H' m ∧ Stp φ F H φ' (upd F' p o) H' ∧ Sub F' (upd F' p o) := by
  letI := a.tc
  have sb : Sub F' (upd F' p o) := Sub.new a.nF
  refine ⟨⟨fun b u e => ?_, r.len, r.nod, fun n b c h1 h2 => ?_, r.tab, fun b ps e => ?_⟩, ⟨a.st.pre, a.st.fx.trans sb, fun b u e hb ht => ?_, fun b u e => ?_, fun b e => ?_, fun b h => ?_⟩, sb⟩
  · by_cases h : b = p
    · subst h; rw [upd_same] at e; cases e; exact a.hp
    · rw [upd_ne h] at e; exact r.ext _ _ e
  · obtain ⟨q, x⟩ := r.cell n b c h1 h2
    have ne : b ≠ p := fun e => a.nφ (e ▸ List.mem_of_getElem? h1)
    exact ⟨by rw [upd_ne ne]; exact q, x.mono Pre.refl sb fun o e => e⟩
  · by_cases h : b = p
    · subst h; rw [upd_same] at e; cases e; exact a.tc.tbl ps rfl
    · rw [upd_ne h] at e; exact r.ntb b ps e
  · exact a.st.keep b u (by rw [upd_ne (ne_of_none e a.no)]; exact e) hb ht
  · by_cases h : b = p
    · subst h; exact .inr (Nt.none a.no)
    · rw [upd_ne h] at e
      rcases a.st.new b u e with q | q
      · exact .inl q
      · exact .inr ((Nt.upd_ne h).mp q)
  · have q := a.st.dom b e
    by_cases h : b = p
    · subst h; exact absurd q (Nt.not upd_same)
    · exact (Nt.upd_ne h).mp q
  · rcases a.st.nw b h with q | q
    · exact .inl q
    · by_cases hb : b = p
      · subst hb; exact absurd q (Nt.not upd_same)
      · exact .inr ((Nt.upd_ne hb).mp q)
/-- it is a cell -/
theorem Pend.cell {c : Cell} (a : Pend φ F H p o φ' F' H') (r : MR K φ' F' H' m) (hc : CellR K (φ' ++ [p]) F' H' p c) : MR K (φ' ++ [p]) F' H' (m ++ [c]) ∧ Stp φ F H (φ' ++ [p]) F' H' := by
  letI := a.tc
  refine ⟨⟨r.ext, by simp [r.len], ?_, fun n b c' h1 h2 => ?_, r.tab, r.ntb⟩, ⟨a.st.pre.trans ⟨[p], rfl⟩, a.st.fx, fun b u e hb ht => ?_, fun b u e => ?_, fun b e => ?_, fun b h => ?_⟩⟩
  · rw [List.nodup_append]
    refine ⟨r.nod, by simp, fun b hb d hd => ?_⟩
    rw [List.mem_singleton] at hd
    subst hd
    exact fun e => a.nφ (e ▸ hb)
  · by_cases hi : n < φ'.length
    · rw [List.getElem?_append_left hi] at h1
      rw [List.getElem?_append_left (by rw [← r.len]; exact hi)] at h2
      obtain ⟨q, x⟩ := r.cell n b c' h1 h2
      exact ⟨q, x.mono ⟨[p], rfl⟩ Sub.refl fun o e => e⟩
    · rw [List.getElem?_append_right (by omega)] at h1
      rw [List.getElem?_append_right (by rw [← r.len]; omega)] at h2
      have h0 : n - φ'.length = 0 := by
        by_cases z : n - φ'.length = 0
        · exact z
        · rw [List.getElem?_eq_none (by simp; omega)] at h1; cases h1
      rw [h0] at h1
      rw [← r.len, h0] at h2
      simp at h1 h2
      subst h1 h2
      exact ⟨a.nF, hc⟩
  · exact a.st.keep b u (by rw [upd_ne (ne_of_none e a.no)]; exact e) hb ht
  · rcases a.st.new b u e with q | q
    · exact .inl q
    · by_cases h : b = p
      · subst h; exact absurd q (Nt.not upd_same)
      · exact .inr ((Nt.upd_ne h).mp q)
  · have q := a.st.dom b e
    by_cases h : b = p
    · subst h; exact absurd q (Nt.not upd_same)
    · exact (Nt.upd_ne h).mp q
  · rcases List.mem_append.mp h with q | q
    · rcases a.st.nw b q with q | q
      · exact .inl q
      · by_cases hb : b = p
        · subst hb; exact absurd q (Nt.not upd_same)
        · exact .inr ((Nt.upd_ne hb).mp q)
    · rw [List.mem_singleton] at q
      subst q
      exact .inr (Nt.none a.no)
theorem Pend.newL {W : WX} {σ : L2.St} {mu : Bool} {ds : List D} {vs : List V} {Q : VK} (a : Pend φ F H p (.lst vs) φ' F' H') (r : MR K φ' F' H' m) (rl : RepL K φ' F' ds vs) (h : Pst K W (RD K) σ φ F H (newL mu ds m) Q) : Q (.ref p) H' := by
  cases mu with
  | false =>
    obtain ⟨m1, s1, sb⟩ := a.froz r
    exact h _ _ _ _ s1 m1 (.lst upd_same (rl.mono Pre.refl sb))
  | true =>
    obtain ⟨m1, s1⟩ := a.cell (c := .lst ds) r ⟨vs, a.hp, rl.mono ⟨[p], rfl⟩ Sub.refl⟩
    refine h _ _ _ _ s1 m1 (.ptr ?_)
    rw [← r.len, List.getElem?_append_right (Nat.le_refl _)]
    simp
theorem Pend.newK {W : WX} {σ : L2.St} {mu : Bool} {ds : List (Key × D)} {vs : List (Key × V)} {Q : VK} (a : Pend φ F H p (.dK vs) φ' F' H') (r : MR K φ' F' H' m) (rl : RepK K φ' F' ds vs) (h : Pst K W (RD K) σ φ F H (newK mu ds m) Q) : Q (.ref p) H' := by
  cases mu with
  | false =>
    obtain ⟨m1, s1, sb⟩ := a.froz r
    exact h _ _ _ _ s1 m1 (.dic upd_same (rl.mono Pre.refl sb))
  | true =>
    obtain ⟨m1, s1⟩ := a.cell (c := .dct ds) r ⟨vs, a.hp, rl.mono ⟨[p], rfl⟩ Sub.refl⟩
    refine h _ _ _ _ s1 m1 (.ptr ?_)
    rw [← r.len, List.getElem?_append_right (Nat.le_refl _)]
    simp
end
/-! ### dict displays -/
section
variable {X : Cx} {W : WX} {G : Gx} {k : Nat} {af : Bool}
/-- the pairs of a display as data -/
inductive PpR (K : PySem.W.Frag) (φ : List Addr) (F : Hp) : List (Key × D) → List (V × V) → Prop
  | nil : PpR K φ F [] []
  | cons {k : Key} {d : D} {v : V} {ds : List (Key × D)} {vs : List (V × V)} : Rep K φ F d v → PpR K φ F ds vs → PpR K φ F ((k, d) :: ds) ((kV k, v) :: vs)
def trsOf (X : Cx) (W : WX) (G : Gx) : CPs → List (TE × TE)
  | .nil => []
  | .cons k v r => (Tm X.K W (RD X.K) (evalE G k), Tm X.K W (RD X.K) (evalE G v)) :: trsOf X W G r
theorem tm_pairs : ∀ {ps : CPs} {σ : L2.St} {H : Hp} {Q : List (V × V) → Hp → Prop}, Tm X.K W (PpR X.K) (evalP G ps) σ H Q → tPairs (trsOf X W G ps) σ H Q
  | .nil, σ, H, Q, ⟨φ, F, en, m, mr, er, q⟩ => q.okQ mr .nil
  | .cons a b r, σ, H, Q, ⟨φ, F, en, m, mr, er, q⟩ => by
    refine ⟨φ, F, en, m, mr, er, Pst.bind q fun x m1 φ1 F1 H1 v _ s1 mr1 r1 q1 => ?_⟩
    refine ⟨φ1, F1, en, m1, mr1, er.mono s1.pre s1.fx, q1.bind fun y m2 φ2 F2 H2 w _ s2 mr2 r2 q2 => ?_⟩
    split at q2
    · rename_i kk hk
      have e := kD_rep hk r1
      subst e
      refine tm_pairs ⟨φ2, F2, en, m2, mr2, (er.mono s1.pre s1.fx).mono s2.pre s2.fx, q2.bind fun z m3 φ3 F3 H3 u _ s3 mr3 r3 q3 => ?_⟩
      exact q3.okQ mr3 (.cons (r2.mono s3.pre s3.fx) r3)
    · exact q2.elim
theorem PpR.keys {K : PySem.W.Frag} {φ : List Addr} {F : Hp} : ∀ {ds : List (Key × D)} {vs : List (V × V)}, PpR K φ F ds vs → ∃ kvs : List (Key × V), vs = kvs.map (fun kv => (kV kv.1, kv.2)) ∧ RepK K φ F ds kvs
  | _, _, .nil => ⟨[], rfl, .nil⟩
  | _, _, .cons (k := k) (v := v) h r => by
    obtain ⟨kvs, rfl, r2⟩ := PpR.keys r
    exact ⟨(k, v) :: kvs, rfl, .cons h r2⟩
theorem merge_rep {K : PySem.W.Frag} {φ : List Addr} {F : Hp} : ∀ {more : List (Key × D)} {vs : List (Key × V)} {ds : List (Key × D)} {ws : List (Key × V)}, RepK K φ F more vs → RepK K φ F ds ws → RepK K φ F (more.foldl (fun a p => putD a p.1 p.2) ds) (mergeK ws vs)
  | _, _, _, _, .nil, r => r
  | _, _, ds, ws, .cons (k := k) (d := d) (v := v) (ds := es) (vs := us) h q, r => by
    show RepK K φ F (es.foldl (fun a p => putD a p.1 p.2) (putD ds k d)) (mergeK (putK ws k v) us)
    exact merge_rep q (putD_rep h r)
theorem me_dic {mu : Bool} {ps : CPs} {ks : List (Option Expr)} {vs : List Expr} {pos : Pos} (h : PPs X pos ks vs (trsOf X W G ps)) (hall : ks.all (·.isSome) = true) (hl : ks.length = vs.length) (h0 : ks ≠ []) (h15 : ks.length ≤ 15) : PE X (.Dict ks vs pos) (Tm X.K W (RD X.K) (evalE G (.dic mu ps))) := by
  refine (pe_disp h hall hl h0 h15).imp fun σ H Q ⟨φ, F, en, m, mr, er, q⟩ p hp => tm_pairs ?_
  refine ⟨φ, F, en, m, mr.alloc hp, er, ?_⟩
  have q : Pst X.K W (RD X.K) σ φ F H ((evalP G ps en m).bind fun ps m => if ps.length ≤ 15 then newK mu (ps.foldl (fun a p => putD a p.1 p.2) []) m else .stuck) Q := q
  cases hc : evalP G ps en m with
  | stuck => rw [hc] at q; exact q.elim
  | exc z m3 =>
    rw [hc] at q
    intro φ' F' H' c dd st mr' ex
    have a := (Pend.start (o := .dK []) mr hp).step st
    obtain ⟨m1, s1, sb⟩ := a.froz mr'
    refine q φ' _ H' c dd s1 m1 ⟨ex.cls, ?_, ex.no⟩
    rcases ex.fs with h | ⟨a, vs, h1, h2, h3, h4⟩
    · exact .inl h
    · exact .inr ⟨a, vs, h1, h2, h3.mono Pre.refl sb, h4⟩
  | ok ds m3 =>
    rw [hc] at q
    rw [Res.bind_ok] at q
    intro φ' F' H' us st mr' r
    have a := (Pend.start (o := .dK []) mr hp).step st
    obtain ⟨kvs, rfl, rk⟩ := r.keys
    split at q
    · rename_i hd
      refine ⟨a.hp, kvs, rfl, by rw [rk.len]; exact hd, ?_⟩
      exact (a.put (o' := .dK (mergeK [] kvs))).newK (mr'.other (tc := a.tc) a.hp a.nφ a.nF) (merge_rep rk .nil) q
    · exact q.elim
theorem me_dic0 {mu : Bool} {pos : Pos} : PE X (.Dict [] [] pos) (Tm X.K W (RD X.K) (evalE G (.dic mu .nil))) := by
  refine pe_dnewK.imp fun σ H Q ⟨φ, F, en, m, mr, er, q⟩ p hp => ?_
  have q : Pst X.K W (RD X.K) σ φ F H (newK mu [] m) Q := q
  exact q.newK mr hp .nil
/-! ### targets -/
/-- the slots as they were, but for those in l -/
structure AsB (l : List Nat) (σ σ' : L2.St) : Prop where
  len : σ'.length = σ.length
  at_ : ∀ j, j ∉ l → σ'[j]? = σ[j]?
theorem wipe_at {σ : L2.St} {j : Nat} : ∀ {vs : List Nat}, (L2.wipe σ vs)[j]? = if j ∈ vs ∧ j < σ.length then some none else σ[j]?
  | [] => by simp [L2.wipe]
  | v :: vs => by
    unfold L2.wipe
    rw [List.getElem?_set, wipe_length, wipe_at (vs := vs)]
    by_cases h : v = j
    · subst h
      by_cases h2 : v < σ.length
      · simp [h2]
      · simp [h2]
    · by_cases h3 : j ∈ vs <;> simp [h, h3, Ne.symm h]
theorem AsB.wipe {l vs : List Nat} {σ σ' : L2.St} (a : AsB l (L2.wipe σ vs) σ') (h : ∀ j ∈ l, j ∈ vs) : L2.wipe σ' vs = L2.wipe σ vs := by
  have hl : σ'.length = σ.length := by rw [a.len, wipe_length]
  refine List.ext_getElem? fun j => ?_
  rw [wipe_at, wipe_at, hl]
  by_cases hj : j ∈ vs ∧ j < σ.length
  · rw [if_pos hj, if_pos hj]
  · rw [if_neg hj, if_neg hj]
    by_cases h1 : j ∈ vs
    · have h2 : ¬ j < σ.length := fun z => hj ⟨h1, z⟩
      rw [List.getElem?_eq_none (by omega), List.getElem?_eq_none (by omega)]
    · rw [a.at_ j fun z => h1 (h j z), wipe_at, if_neg hj]
def TGm (K : PySem.W.Frag) (t : CT) : TG := fun v σ H Q => ∃ φ F e m d e', MR K φ F H m ∧ EnvR K φ F e σ ∧ Rep K φ F d v ∧ bindT t d m e = some e' ∧ ∀ σ', EnvR K φ F e' σ' → AsB (slotsT t) σ σ' → Q σ' H
def gNs : List (Nat × Str) → TGs
  | [] => gNil
  | (i, _) :: r => gCons (gName i) (gNs r)
theorem gns_run {K : PySem.W.Frag} {φ : List Addr} {F H : Hp} : ∀ {xs : List (Nat × Str)} {ds : List D} {vs : List V} {e e' : EnvD} {σ : L2.St} {Q : L2.St → Hp → Prop}, RepL K φ F ds vs → EnvR K φ F e σ → bindAll xs ds e = some e' → (∀ σ', EnvR K φ F e' σ' → AsB (xs.map (·.1)) σ σ' → Q σ' H) → gNs xs vs σ H Q
  | [], [], _, _, _, _, _, .nil, er, h, q => by
    cases h
    exact ⟨rfl, q _ er ⟨rfl, fun _ _ => rfl⟩⟩
  | [], _ :: _, _, _, _, _, _, _, _, h, _ => by simp [bindAll] at h
  | _ :: _, [], _, _, _, _, _, _, _, h, _ => by simp [bindAll] at h
  | (i, x) :: r, d :: ds, _, _, _, _, _, .cons h1 h2, er, h, q => by
    refine ⟨_, _, rfl, ?_⟩
    refine gns_run h2 (er.set h1 i) h fun σ' e' k => q σ' e' ⟨by rw [k.1, List.length_set], fun j hj => ?_⟩
    rw [List.map_cons, List.mem_cons, not_or] at hj
    rw [k.2 j hj.2, List.getElem?_set_ne (Ne.symm hj.1)]
theorem bindAll_len : ∀ {xs : List (Nat × Str)} {ds : List D} {e e' : EnvD}, bindAll xs ds e = some e' → ds.length = xs.length
  | [], [], _, _, _ => rfl
  | [], _ :: _, _, _, h => by simp [bindAll] at h
  | _ :: _, [], _, _, h => by simp [bindAll] at h
  | (i, x) :: r, d :: ds, _, _, h => by
    have := bindAll_len (xs := r) (ds := ds) h
    simp [this]
theorem sto_of {i : Nat} {x : Str} {N : List Str} {sc : Scope} (h : stoB N sc af i x = true) : N[i]? = some x ∧ Loc sc x ∧ (af = true ∨ sc.names.lookup x = some .local) := by
  unfold stoB at h
  rw [Bool.and_eq_true] at h
  obtain ⟨h1, h2⟩ := h
  refine ⟨of_decide_eq_true h1, ?_⟩
  split at h2
  · rename_i q; exact ⟨.inl q, .inr q⟩
  · rename_i q; exact ⟨.inr q, .inl h2⟩
  · cases h2
theorem mg_ns (nd : X.N.Nodup) (hf : af = true → ∀ x, X.fn x = true) : ∀ {xs : List (Nat × Str)} {es : List Expr}, chkNs X.N X.env.scope af xs es = true → PGs X es (gNs xs) ∧ (assignEach es X.env).length = xs.length ∧ (assignEach es X.env).findIdx? (·.1) = none
  | [], [], _ => ⟨pgs_nil, rfl, rfl⟩
  | [], _ :: _, h => by simp [chkNs] at h
  | (i, x) :: r, [], h => by simp [chkNs] at h
  | (i, x) :: r, e :: es, h => by
    cases e with
    | Name y p =>
      simp only [chkNs, Bool.and_eq_true] at h
      obtain ⟨⟨h1, h2⟩, h3⟩ := h
      have e := of_decide_eq_true h1
      subst e
      obtain ⟨q1, q2, q3⟩ := sto_of h2
      obtain ⟨r1, r2, r3⟩ := mg_ns nd hf h3
      refine ⟨pgs_cons (pg_name nd q1 q2 (q3.imp (fun e => hf e _) id)) r1 rfl, ?_, ?_⟩
      · show ((false, assign (.Name x p) X.env) :: assignEach es X.env).length = _
        rw [List.length_cons, r2, List.length_cons]
      · show ((false, assign (.Name x p) X.env) :: assignEach es X.env).findIdx? (·.1) = none
        rw [List.findIdx?_cons]
        simp [r3]
    | _ => simp [chkNs] at h
theorem mg_of {calm : Bool} (nd : X.N.Nodup) (hf : af = true → ∀ x, X.fn x = true) (hc : calm = true → X.calm = true) {t : CT} {e : Expr} (h : chkT X.N X.env.scope af calm t e = true) : PG X e (TGm X.K t) := by
  cases t with
  | nam i x =>
    cases e with
    | Name y p =>
      simp only [chkT, Bool.and_eq_true] at h
      have e := of_decide_eq_true h.1
      subst e
      obtain ⟨q1, q2, q3⟩ := sto_of h.2
      refine (pg_name (i := i) nd q1 q2 (q3.imp (fun e => hf e _) id)).imp fun v σ H Q ⟨φ, F, en, m, d, e', mr, er, r, hb, q⟩ => ?_
      cases hb
      exact q _ (er.set r i) ⟨List.length_set .., fun j hj => List.getElem?_set_ne (fun e => hj (by rw [← e]; exact List.mem_singleton.mpr rfl))⟩
    | _ => simp [chkT] at h
  | tup xs =>
    cases e with
    | Tuple es kk p =>
      simp only [chkT, Bool.and_eq_true] at h
      obtain ⟨r1, r2, r3⟩ := mg_ns nd hf h.2
      refine ((pg_tup (n := xs.length) (hc h.1) r1 r2 r3).or (pg_lst (n := xs.length) (hc h.1) r1 r2 r3)).imp fun v σ H Q ⟨φ, F, en, m, d, e', mr, er, r, hb, q⟩ => ?_
      simp only [bindT] at hb
      split at hb
      · cases r with
        | tup h1 h2 => exact .inl ⟨_, _, rfl, SqT.of (mr.ext _ _ h1), by rw [h2.len]; exact bindAll_len hb, gns_run h2 er hb q⟩
      · split at hb
        · rename_i ds hg
          obtain ⟨a, ws, rfl, h2, r2'⟩ := getL_rep mr hg r
          exact .inr ⟨a, ws, rfl, SqL.of h2, by rw [r2'.len]; exact bindAll_len hb, gns_run r2' er hb q⟩
        · cases hb
    | _ => simp [chkT] at h
/-! ### what is walked -/
/-- turn i of known items -/
def Yd (K : PySem.W.Frag) (φ : List Addr) (F : Hp) (ds : List D) : Nat → Hp → V → Hp → Prop := fun i H x H' => ∃ d, ds[i]? = some d ∧
  ((H' = H ∧ Rep K φ F d x) ∨ ∃ T xs es, x = .ref T ∧ H T = none ∧ H' = upd H T (.tup xs) ∧ d = .tup es ∧ RepL K φ F es xs)
def RI (K : PySem.W.Frag) : List Addr → Hp → Itd → It → Prop := fun φ F J I => match J with
  | .fix ds => Walk I ds.length (fun H => Sub F H) (Yd K φ F ds)
  | .liv n => ∃ a, φ[n]? = some a ∧ I = Itl K a
abbrev TIm (X : Cx) (W : WX) (G : Gx) (c : CI) : TI := Tm X.K W (RI X.K) (evalI G c)
theorem ri_mono {K : PySem.W.Frag} {φ φ' : List Addr} {F F' : Hp} {J : Itd} {I : It} (p : Pre φ φ') (s : Sub F F') (h : RI K φ F J I) : RI K φ' F' J I := by
  cases J with
  | fix ds =>
    refine Walk.mono h (fun H q => s.trans q) fun i H x H' _ _ ⟨d, hd, y⟩ => ⟨d, hd, ?_⟩
    rcases y with ⟨e, r⟩ | ⟨T, xs, es, e1, e2, e3, e4, r⟩
    · exact .inl ⟨e, r.mono p s⟩
    · exact .inr ⟨T, xs, es, e1, e2, e3, e4, r.mono p s⟩
  | liv n =>
    obtain ⟨a, h1, h2⟩ := h
    exact ⟨a, p.get h1, h2⟩
theorem ri_list {K : PySem.W.Frag} {φ : List Addr} {F : Hp} {a : Addr} {ds : List D} {vs : List V} (h : SqL K F a vs) (r : RepL K φ F ds vs) : RI K φ F (.fix ds) (Itl K a) := by
  have w := walk_list (K := K) (a := a) (xs := vs)
  rw [r.len] at w
  refine Walk.mono w (fun H s => Sub.sqL s h) fun i H x H' _ _ ⟨e, hx⟩ => ?_
  obtain ⟨d, h1, h2⟩ := r.getV hx
  exact ⟨d, h1, .inl ⟨e, h2⟩⟩
theorem Sub.sqT {K : PySem.W.Frag} {F F' : Hp} (s : Sub F F') {a : Addr} {xs : List V} (h : SqT K F a xs) : SqT K F' a xs := by
  rcases h with (h | ⟨o, h⟩) | h
  · exact .inl (.inl (s _ _ h))
  · exact .inl (.inr ⟨o, s _ _ h⟩)
  · exact .inr h
theorem ri_tup {K : PySem.W.Frag} {φ : List Addr} {F : Hp} {a : Addr} {ds : List D} {vs : List V} (h : SqT K F a vs) (r : RepL K φ F ds vs) : RI K φ F (.fix ds) (Itt K a) := by
  have w := walk_tup (K := K) (a := a) (xs := vs)
  rw [r.len] at w
  refine Walk.mono w (fun H s => Sub.sqT s h) fun i H x H' _ _ ⟨e, hx⟩ => ?_
  obtain ⟨d, h1, h2⟩ := r.getV hx
  exact ⟨d, h1, .inl ⟨e, h2⟩⟩
theorem ri_str {K : PySem.W.Frag} {φ : List Addr} {F : Hp} {z : Str} : RI K φ F (.fix (signsD z)) (Its z) := by
  have w := walk_str (z := z)
  have e : z.cps.size = (signsD z).length := by simp [signsD]
  rw [e] at w
  refine Walk.mono w (fun H s => trivial) fun i H x H' _ _ ⟨e, c, hc, hx⟩ => ⟨.str ⟨#[c]⟩, ?_, .inl ⟨e, hx ▸ .str _⟩⟩
  unfold signsD
  rw [List.getElem?_map, Array.getElem?_toList, hc]
  rfl
theorem ri_range {K : PySem.W.Frag} {φ : List Addr} {F : Hp} {lo : Int} {n : Nat} : RI K φ F (.fix ((List.range n).map fun k => .int (lo + (k : Nat)))) (Itr lo n) := by
  have w := walk_range (lo := lo) (n := n)
  have e : n = ((List.range n).map fun k => D.int (lo + (k : Nat))).length := by simp
  rw [e] at w
  have w2 : Walk (Itr lo n) ((List.range n).map fun k => D.int (lo + (k : Nat))).length (fun _ => True) (YFn fun i => .int (lo + i)) := by
    have := walk_range (lo := lo) (n := n)
    rw [← e]
    exact this
  refine Walk.mono w2 (fun H s => trivial) fun i H x H' hi _ ⟨e, hx⟩ => ⟨.int (lo + (i : Nat)), ?_, .inl ⟨e, hx ▸ .int _⟩⟩
  have hi' : i < n := by simpa using hi
  rw [List.getElem?_map, List.getElem?_range hi']
  rfl
theorem ri_rev {K : PySem.W.Frag} {φ : List Addr} {F : Hp} {a : Addr} {ds : List D} {vs : List V} (h : SqL K F a vs) (r : RepL K φ F ds vs) : RI K φ F (.fix ds.reverse) (Itv K a vs.length) := by
  have w := walk_rev (K := K) (a := a) (xs := vs)
  have e : ds.reverse.length = vs.length := by rw [List.length_reverse, r.len]
  show Walk _ ds.reverse.length _ _
  rw [e]
  refine Walk.mono w (fun H s => Sub.sqL s h) fun i H x H' hi _ ⟨e, hx⟩ => ?_
  obtain ⟨d, h1, h2⟩ := r.getV hx
  refine ⟨d, ?_, .inl ⟨e, h2⟩⟩
  rw [List.getElem?_reverse (by rw [← r.len]; exact hi), ← r.len]
  exact h1
end
end Mi

set_option Elab.async false
set_option linter.all false
set_option maxRecDepth 100000
set_option maxHeartbeats 4000000
/-! MiE4: walks by the text, comprehensions, calls. -/
namespace L2
open PySem
/-! ### calls whose exceptions are wished for at the slots -/
section
variable {X : Cx} {CX : CXT} {k : Nat} {f C : Addr} {fd : FuncData} {ps : List Str} {sp : Sp} {E : St → XK} {x m : Str} {p pos apos : Pos} {e o : Expr} {es : List Expr} {ta : TE} {t : TA}
theorem pe_call0SD (F : FnOk X.prog X.w X.K X.mg X.base CX k f fd ps sp) (hr : Room k X.A) (hg : Gl X x) (hm : X.mg x = some (.ref f)) (hk : PySem.W.keepIn X.K (.ref f) = true) (hb : Binds X.K fd ps []) (hx : ∀ σ, PassesAt CX X σ (E σ))
    (hdb : (x == ("__debug__" : Str)) = false) : PE X (.Call (.Name x p) [] [] pos) (tCallSD sp [] E tNil) := by
  refine ⟨fun pins s σ H Q I h => ?_⟩
  refine wpAny_Call_Name_kw (ld_glob I hg hm ?_ hdb)
  exact PySem.W.callWith_K0 I.kIn hk (run_fnSD (us := []) F hr hb .nil (hx σ) I .nil h)
def tMakeS (C : Addr) (sp : Sp) (E : St → XK) (t : TA) : TE := fun σ H Q => t σ H fun vs H1 => ∀ x dx, H1 x = none → H1 dx = none → dx ≠ x →
  sp (.ref x :: vs) (upd (upd H1 dx (.own x)) x (.ins C dx [])) (fun v H2 => v = .non ∧ Q (.ref x) H2) (E σ)
theorem run_makeS {pins : List (Addr × Obj)} {σ : St} {H : Hp} {s : Shared} {Q : VK} {us : List Value} {vs : List V} {E : XK} (M : Mk X.K C f) (F : FnOk X.prog X.w X.K X.mg X.base CX k f fd ps sp) (hr : Room (k + 1) X.A) (hb : Binds X.K fd ps [])
    (hx : PassesAt CX X σ E) (I : Inv X pins σ H s) (r : Vals vs us)
    (h : ∀ x dx, H x = none → H dx = none → dx ≠ x → sp (.ref x :: vs) (upd (upd H dx (.own x)) x (.ins C dx [])) (fun v H2 => v = .non ∧ Q (.ref x) H2) E) :
    wpAny (model X.prog X.w) X.A (call (.ref C) us) (EP X pins σ Q) X.xe s := by
  have hq := h (s.heap.objs.size + 1) s.heap.objs.size (I.hok.fresh (Nat.le_succ _)) (I.hok.fresh (Nat.le_refl _)) (Nat.ne_of_lt (Nat.lt_succ_self _))
  have I2 := Inv.made (C := C) I
  have r2 : Vals (V.ref (s.heap.objs.size + 1) :: vs) (Value.ref (s.heap.objs.size + 1) :: us) := .cons rfl r
  have hl : (Value.ref (s.heap.objs.size + 1) :: us ++ []).length = ps.length := by
    have e := r2.length
    rw [F.len _ _ _ _ hq] at e
    rw [List.append_nil]
    exact e.symm
  have hbb := hb _ (Value.ref (s.heap.objs.size + 1) :: us) I2.kIn hl
  rw [List.append_nil] at hbb
  refine wpAny_call (make_map (f := f) I.kIn M.makes M.init (beq_iff_eq.mp M.fn) (codeAny_mono (F.run _ X.stack _ _ ⟨Value.ref (s.heap.objs.size + 1) :: us, []⟩ (Value.ref (s.heap.objs.size + 1) :: us) _ _ E (hr.make C us [])
    (I2.env0.make C us []) hbb r2 hq) fun r s' hq' => ?_))
  cases r with
  | error e => exact hx pins _ _ e s' I2 hq'
  | ok fl =>
    cases fl with
    | ret u =>
      obtain ⟨v, H', I3, rv, ev, q3⟩ := I2.after hq'
      subst ev
      exact ⟨rv, ⟨V.ref (s.heap.objs.size + 1), H', I3, rfl, q3⟩⟩
    | next => exact False.elim hq'
    | brk => exact False.elim hq'
    | cont => exact False.elim hq'
theorem pe_makeS (M : Mk X.K C f) (F : FnOk X.prog X.w X.K X.mg X.base CX k f fd ps sp) (hr : Room (k + 1) X.A) (hg : Gl X x) (hm : X.mg x = some (.ref C)) (hb : Binds X.K fd ps []) (hx : ∀ σ, PassesAt CX X σ (E σ))
    (ha : PA X (e :: es) t) (hdb : (x == ("__debug__" : Str)) = false) (he : starEach (e :: es) X.env = (false, eval e X.env) :: starEach es X.env) (hpl : (backTo pos (starEach es X.env)).any (·.1) = false) :
    PE X (.Call (.Name x p) (e :: es) [] pos) (tMakeS C sp E t) := by
  refine ⟨fun pins s σ H Q I h => ?_⟩
  refine wpAny_Call_Name_kw (ld_glob I hg hm ?_ hdb)
  refine PySem.W.callWith_K (h₀ := X.base) I.ok.mod.kin M.kp (thn (ha.run pos pins s σ H _ I h) fun us s1 ⟨vs, H1, I1, r, q⟩ => ⟨I1.kIn, ?_⟩) he hpl
  exact run_makeS M F hr hb (hx σ) I1 r q
theorem pe_make0S (M : Mk X.K C f) (F : FnOk X.prog X.w X.K X.mg X.base CX k f fd ps sp) (hr : Room (k + 1) X.A) (hg : Gl X x) (hm : X.mg x = some (.ref C)) (hb : Binds X.K fd ps []) (hx : ∀ σ, PassesAt CX X σ (E σ))
    (hdb : (x == ("__debug__" : Str)) = false) : PE X (.Call (.Name x p) [] [] pos) (tMakeS C sp E tNil) := by
  refine ⟨fun pins s σ H Q I h => ?_⟩
  refine wpAny_Call_Name_kw (ld_glob I hg hm ?_ hdb)
  exact PySem.W.callWith_K0 I.kIn M.kp (run_makeS (us := []) M F hr hb (hx σ) I .nil h)
def tMethT (C : Addr) (m : Str) (sp : Sp) (E : St → XK) (ta : TE) (t : TA) : TE := fun σ H Q => ta σ H fun x H1 => ∃ a dx fs, x = .ref a ∧ H1 a = some (.ins C dx fs) ∧ fs.lookup m = none ∧
  t σ H1 fun vs H2 => sp (x :: vs) H2 Q (E σ)
theorem meth_line {env : Env} (hb : attributeBase o m env (eval o env) = eval o env) (hf : methodCallForm ((es).length + 0) (backTo pos (starEach es env)) (backToKw pos (keywordEach [] env)) = true) (hl : (apos.endLine == pos.line) = true) :
    eval (.Call (.Attribute o m apos) es [] pos) env = (do
      let ov ← eval o env
      standAt apos.atName
      let (f, first) ← holding [ov] (getMethod ov m (plainOf o env))
      callWith pos f first (backTo pos (starEach es env)) (backToKw pos (keywordEach [] env))) := by
  rw [eval]
  rw [hb]
  congr 1
  funext ov
  congr 1
  funext u
  exact mcall_line hf hl
theorem pe_methT (he : PE X o ta) (c : Cls X.K C) (hm : Meth X.K C m f) (F : FnOk X.prog X.w X.K X.mg X.base CX k f fd ps sp) (hr : Room k X.A) (hb : Binds X.K fd ps []) (hx : ∀ σ, PassesAt CX X σ (E σ)) (ha : PA X (e :: es) t)
    (hst : starEach (e :: es) X.env = (false, eval e X.env) :: starEach es X.env) (hpl : (backTo pos (starEach es X.env)).any (·.1) = false)
    (hbs : attributeBase o m X.env (eval o X.env) = eval o X.env) (hf : methodCallForm ((e :: es).length + 0) (backTo pos (starEach (e :: es) X.env)) (backToKw pos (keywordEach [] X.env)) = true) (hl : (apos.endLine == pos.line) = true) :
    PE X (.Call (.Attribute o m apos) (e :: es) [] pos) (tMethT C m sp E ta t) := by
  refine ⟨fun pins s σ H Q I h => ?_⟩
  refine PySem.W.methodCall_KW (pl := plainOf o X.env) (thn (he.run pins s σ H _ I h) fun u s1 ⟨x, H1, I1, rx, a, dx, fs, ex, ea, l, q⟩ => ?_) (meth_line hbs hf hl)
  subst ex
  obtain rfl : u = Value.ref a := rx
  refine getmeth_ok I1 ea c hm l ?_
  refine PySem.W.callWith_K (first := [.ref a]) (h₀ := X.base) I.ok.mod.kin hm.kp (thn (ha.run pos pins s1 σ H1 _ I1 q) fun us s2 ⟨vs, H2, I2, r, q2⟩ => ⟨I2.kIn, ?_⟩) hst hpl
  exact run_fnSD (us := .ref a :: us) (vs := .ref a :: vs) F hr hb .nil (hx σ) I2 (.cons rfl r) (by rw [List.append_nil]; exact q2)
theorem pe_meth0T (he : PE X o ta) (c : Cls X.K C) (hm : Meth X.K C m f) (F : FnOk X.prog X.w X.K X.mg X.base CX k f fd ps sp) (hr : Room k X.A) (hb : Binds X.K fd ps []) (hx : ∀ σ, PassesAt CX X σ (E σ))
    (hbs : attributeBase o m X.env (eval o X.env) = eval o X.env) (hl : (apos.endLine == pos.line) = true) :
    PE X (.Call (.Attribute o m apos) [] [] pos) (tMethT C m sp E ta tNil) := by
  refine ⟨fun pins s σ H Q I h => ?_⟩
  refine PySem.W.methodCall_KW (pl := plainOf o X.env) (thn (he.run pins s σ H _ I h) fun u s1 ⟨x, H1, I1, rx, a, dx, fs, ex, ea, l, q⟩ => ?_) (meth_line hbs rfl hl)
  subst ex
  obtain rfl : u = Value.ref a := rx
  refine getmeth_ok I1 ea c hm l ?_
  exact PySem.W.callWith_K0 (first := [.ref a]) I1.kIn hm.kp (run_fnSD (us := [.ref a]) (vs := [.ref a]) F hr hb .nil (hx σ) I1 (.cons rfl .nil) (by rw [List.append_nil]; exact q))
end
end L2
namespace Mi
open PySem L2
variable [WW]
section
variable {X : Cx} {W : WX} {G : Gx} {k : Nat} {af : Bool}
theorem PE.never {e : Expr} {t : TE} (h : ∀ σ H Q, ¬ t σ H Q) : PE X e t := ⟨fun pins s σ H Q I q => absurd q (h σ H Q)⟩
theorem Pst.wish {K : PySem.W.Frag} {α β : Type} {R : List Addr → Hp → α → β → Prop} {σ : L2.St} {φ : List Addr} {F H : Hp} {r : Res α} {Q : β → Hp → Prop} (h : Pst K W R σ φ F H r Q) : Pst K (fun c dd _ H => WE W σ c dd H) R [] φ F H r Q := by
  cases r <;> exact h
theorem tm_never {f : EnvD → Mem → Res D} (h : ∀ e m, ∀ d m', f e m ≠ .ok d m') (h2 : ∀ e m x m', f e m ≠ .exc x m') (σ : L2.St) (H : Hp) (Q : VK) : ¬ Tm X.K W (RD X.K) f σ H Q := fun ⟨φ, F, en, m, mr, er, q⟩ => by
  cases hc : f en m with
  | stuck => rw [hc] at q; exact q
  | ok d m' => exact h _ _ _ _ hc
  | exc x m' => exact h2 _ _ _ _ hc
/-! ### calls of defs -/
theorem arity {g : Fn} {n : Nat} {K : PySem.W.Frag} {σ : L2.St} {φ : List Addr} {F H : Hp} {m : Mem} {ds : List D} {Q : VK} (har : ∀ ds m, ds.length ≠ n → g ds m = .stuck) (q : Pst K W (RD K) σ φ F H (g ds m) Q) : ds.length = n := by
  by_cases e : ds.length = n
  · exact e
  · rw [har ds m e] at q
    exact q.elim
theorem tm_fn {g : Fn} {as : CEs} {n : Nat} (har : ∀ ds m, ds.length ≠ n → g ds m = .stuck) {σ : L2.St} {H : Hp} {Q : VK} (h : Tm X.K W (RD X.K) (fun e m => (evalL G as e m).bind fun vs m => g vs m) σ H Q) :
    TL X W G as σ H fun vs H1 => spOf X.K n g (vs ++ []) H1 Q (WE W σ) := by
  obtain ⟨φ, F, en, m, mr, er, q⟩ := h
  refine ⟨φ, F, en, m, mr, er, q.bind fun ds m1 φ1 F1 H1 vs _ s1 mr1 r1 q1 => ?_⟩
  rw [List.append_nil]
  exact ⟨by rw [r1.len]; exact arity har q1, φ1, F1, ds, m1, mr1, r1, q1.wish⟩
theorem make_sp {C : Str} {g : Fn} {n : Nat} {K : PySem.W.Frag} {σ : L2.St} {φ : List Addr} {F H : Hp} {m : Mem} {ds : List D} {vs : List V} {Q : VK} (har : ∀ ds m, ds.length ≠ n → g ds m = .stuck)
    (mr1 : MR K φ F H m) (r1 : RepL K φ F ds vs) (q1 : Pst K W (RD K) σ φ F H (makeD C g ds m) Q) :
    ∀ x dx, H x = none → H dx = none → dx ≠ x → spOf K n g (.ref x :: vs) (upd (upd H dx (.own x)) x (.ins (He.ga K C) dx [])) (fun v H2 => v = .non ∧ Q (.ref x) H2) (WE W σ) := by
  intro x dx hx hdx hne
  have mrd := mr1.alloc (o := .own x) hdx
  have hx2 : upd H dx (.own x) x = none := by rw [upd_ne (Ne.symm hne)]; exact hx
  obtain ⟨mrx, sx⟩ := mrd.push (o := .ins (He.ga K C) dx []) (c := .ins C []) hx2 ⟨dx, [], upd_same, .nil⟩
  have st0 : Stp φ F H φ F (upd H dx (.own x)) := ⟨Pre.refl, Sub.refl, fun a o e _ _ => by rw [upd_ne (ne_of_none e hdx)]; exact e, fun _ _ e => .inl e, fun a e => by
    by_cases z : a = dx
    · subst z; exact Nt.none hdx
    · exact (Nt.upd_ne z).mp e, fun _ e => .inl e⟩
  have st := st0.trans sx
  have rx : Rep K (φ ++ [x]) F (.ptr m.length) (.ref x) := .ptr (by
    rw [← mr1.len, List.getElem?_append_right (Nat.le_refl _)]
    simp)
  unfold makeD at q1
  have q2 := Pst.step st q1
  have har2 : (D.ptr m.length :: ds).length = n := by
    by_cases e : (D.ptr m.length :: ds).length = n
    · exact e
    · rw [har _ _ e] at q2
      exact q2.elim
  refine ⟨by rw [List.length_cons, r1.len]; exact har2, φ ++ [x], F, D.ptr m.length :: ds, _, mrx, .cons rx (r1.mono ⟨[x], rfl⟩ Sub.refl), ?_⟩
  refine Pst.wish (Pst.bind q2 fun d m3 φ3 F3 H3 v _ s3 mr3 r3 q3 => ?_)
  cases d with
  | non =>
    cases r3
    exact ⟨rfl, q3.okQ mr3 (rx.mono s3.pre s3.fx)⟩
  | _ => exact q3.elim
theorem me_call (c : CK X W G k af) (hcalm : X.calm = true) {f : Str} {as : CEs} {e : Expr} {es : List Expr} {p pos : Pos} (hg : Gl X f) (hd : (f == ("__debug__" : Str)) = false) (h : PA X (e :: es) (TL X W G as)) (hp : plainE e = true) (hb : (backTo pos (starEach es X.env)).any (·.1) = false) :
    PE X (.Call (.Name f p) (e :: es) [] pos) (Tm X.K W (RD X.K) (evalE G (.call f as))) := by
  have hr := c.room hcalm
  cases hi : G.ini f with
  | some g =>
    obtain ⟨fa, fd, ps, F, har, M, hm, bn⟩ := c.g.ini f g hi
    refine (pe_makeS M F hr hg hm bn (fun σ => passAt c.tk σ) h hd (star_plain hp) hb).imp fun σ H Q ⟨φ, Fh, en, m, mr, er, q⟩ => ?_
    simp only [evalE, hi] at q
    exact ⟨φ, Fh, en, m, mr, er, q.bind fun ds m1 φ1 F1 H1 vs _ s1 mr1 r1 q1 => make_sp har mr1 r1 q1⟩
  | none =>
    cases hf : G.fn f with
    | some g =>
      obtain ⟨fa, fd, ps, F, har, hm, hk, bn⟩ := c.g.fn f g hf
      refine (pe_callSD F (hr.mono (Nat.le_succ _)) hg hm hk bn .nil (fun σ => passAt c.tk σ) h hd (star_plain hp) hb).imp fun σ H Q hq => tm_fn har ?_
      simp only [evalE, hi, hf] at hq
      exact hq
    | none =>
      refine PE.never fun σ H Q ⟨φ, Fh, en, m, mr, er, q⟩ => ?_
      simp only [evalE, hi, hf] at q
      exact q
theorem me_call0 (c : CK X W G k af) (hcalm : X.calm = true) {f : Str} {p pos : Pos} (hg : Gl X f) (hd : (f == ("__debug__" : Str)) = false) :
    PE X (.Call (.Name f p) [] [] pos) (Tm X.K W (RD X.K) (evalE G (.call f .nil))) := by
  have hr := c.room hcalm
  cases hi : G.ini f with
  | some g =>
    obtain ⟨fa, fd, ps, F, har, M, hm, bn⟩ := c.g.ini f g hi
    refine (pe_make0S M F hr hg hm bn (fun σ => passAt c.tk σ) hd).imp fun σ H Q ⟨φ, Fh, en, m, mr, er, q⟩ => ?_
    simp only [evalE, hi, evalL, Res.bind_ok] at q
    exact make_sp har mr .nil q
  | none =>
    cases hf : G.fn f with
    | some g =>
      obtain ⟨fa, fd, ps, F, har, hm, hk, bn⟩ := c.g.fn f g hf
      refine (pe_call0SD F (hr.mono (Nat.le_succ _)) hg hm hk bn (fun σ => passAt c.tk σ) hd).imp fun σ H Q ⟨φ, Fh, en, m, mr, er, q⟩ => ?_
      simp only [evalE, hi, hf, evalL, Res.bind_ok] at q
      exact ⟨(arity har q).symm ▸ rfl, φ, Fh, [], m, mr, .nil, q.wish⟩
    | none =>
      refine PE.never fun σ H Q ⟨φ, Fh, en, m, mr, er, q⟩ => ?_
      simp only [evalE, hi, hf] at q
      exact q
end
end Mi

set_option Elab.async false
set_option linter.all false
set_option maxRecDepth 100000
set_option maxHeartbeats 4000000
/-! MiE5: own methods, isinstance, what is walked, comprehensions. -/
namespace Mi
open PySem L2
variable [WW]
section
variable {X : Cx} {W : WX} {G : Gx} {k : Nat} {af : Bool}
/-! ### own methods -/
theorem tm_own {C n : Str} {g : Fn} {o : CE} {as : CEs} {t : TA} {np : Nat} (hg : G.met C n = some g) (har : ∀ ds m, ds.length ≠ np → g ds m = .stuck)
    (ht : ∀ σ H Q, TL X W G as σ H Q → t σ H Q) {σ : L2.St} {H : Hp} {Q : VK} (h : Tm X.K W (RD X.K) (evalE G (.own o C n as)) σ H Q) :
    tMethT (He.ga X.K C) n (spOf X.K np g) (WE W) (Tm X.K W (RD X.K) (evalE G o)) t σ H Q := by
  obtain ⟨φ, F, en, m, mr, er, q⟩ := h
  simp only [evalE, hg] at q
  refine ⟨φ, F, en, m, mr, er, Pst.bind q fun x m1 φ1 F1 H1 v _ s1 mr1 r1 q1 => ?_⟩
  cases x with
  | ptr p =>
    simp only at q1
    cases e1 : m1[p]? with
    | none => rw [e1] at q1; exact q1.elim
    | some cl =>
      rw [e1] at q1
      cases cl with
      | ins C' fs =>
        simp only at q1
        split at q1
        · rename_i hc
          obtain ⟨rfl, hn⟩ := hc
          cases r1 with
          | @ptr a p hp =>
            obtain ⟨_, dx, vs, h1, h2⟩ := mr1.cell _ a _ hp e1
            refine ⟨a, dx, vs, rfl, h1, (RepF.look h2).2 hn, ht _ _ _ ⟨φ1, F1, en, m1, mr1, er.mono s1.pre s1.fx, q1.bind fun ds m2 φ2 F2 H2 ws _ s2 mr2 r2 q2 => ?_⟩⟩
            have rr : RepL X.K φ2 F2 (D.ptr p :: ds) (V.ref a :: ws) := .cons (.ptr (s2.pre.get hp)) r2
            exact ⟨by rw [rr.len]; exact arity har q2, φ2, F2, _, m2, mr2, rr, q2.wish⟩
        · exact q1.elim
      | _ => exact q1.elim
  | _ => exact q1.elim
theorem me_own (c : CK X W G k af) (hcalm : X.calm = true) {C n : Str} {o : CE} {as : CEs} {e e1 : Expr} {es : List Expr} {apos pos : Pos} (ho : PE X e (Tm X.K W (RD X.K) (evalE G o))) (hs : supB e = false) (hl : (apos.endLine == pos.line) = true) (h : PA X (e1 :: es) (TL X W G as)) (hp : plainE e1 = true)
    (hst : (starEach es X.env).map (·.1) = es.map fun _ => false) (hn : (e1 :: es).length < 20) : PE X (.Call (.Attribute e n apos) (e1 :: es) [] pos) (Tm X.K W (RD X.K) (evalE G (.own o C n as))) := by
  have hf : methodCallForm ((e1 :: es).length + 0) (backTo pos (starEach (e1 :: es) X.env)) (backToKw pos (keywordEach [] X.env)) = true := by
    have h1 : (backTo pos (starEach (e1 :: es) X.env)).all (fun x => !x.1) = true := back_all (es := e1 :: es) (by rw [star_plain hp, List.map_cons, List.map_cons, hst])
    unfold methodCallForm
    rw [h1]
    have h2 : (e1 :: es).length + 0 < 30 := by omega
    simp [h2, backToKw, keywordEach]
    first | exact h2 | skip
  cases hg : G.met C n with
  | some g =>
    obtain ⟨fa, fd, ps, F, har, M, cl, bn⟩ := c.g.met C n g hg
    exact (pe_methT ho cl M F ((c.room hcalm).mono (Nat.le_succ _)) bn (fun σ => passAt c.tk σ) h (star_plain hp) (back_any hst) (sup_base hs) hf hl).imp fun σ H Q q => tm_own hg har (fun _ _ _ h => h) q
  | none =>
    refine PE.never fun σ H Q ⟨φ, Fh, en, m, mr, er, q⟩ => ?_
    simp only [evalE, hg] at q
    exact q
theorem me_own0 (c : CK X W G k af) (hcalm : X.calm = true) {C n : Str} {o : CE} {e : Expr} {apos pos : Pos} (ho : PE X e (Tm X.K W (RD X.K) (evalE G o))) (hs : supB e = false) (hl : (apos.endLine == pos.line) = true) :
    PE X (.Call (.Attribute e n apos) [] [] pos) (Tm X.K W (RD X.K) (evalE G (.own o C n .nil))) := by
  cases hg : G.met C n with
  | some g =>
    obtain ⟨fa, fd, ps, F, har, M, cl, bn⟩ := c.g.met C n g hg
    refine (pe_meth0T ho cl M F ((c.room hcalm).mono (Nat.le_succ _)) bn (fun σ => passAt c.tk σ) (sup_base hs) hl).imp fun σ H Q q => tm_own hg har (fun _ _ _ h => ?_) q
    obtain ⟨φ, F, en, m, mr, er, q⟩ := h
    exact q.okQ mr .nil
  | none =>
    refine PE.never fun σ H Q ⟨φ, Fh, en, m, mr, er, q⟩ => ?_
    simp only [evalE, hg] at q
    exact q
/-! ### isinstance -/
theorem tn_boot (t : Tn) (h : t ≠ .non) : bootBuiltins (Str.ofString t.nm) = some (.type t.nm) ∧ Str.ofString t.nm ≠ "__name__" ∧ (Str.ofString t.nm == ("__debug__" : Str)) = false := by
  cases t with
  | non => exact (h rfl).elim
  | _ => decide +kernel
theorem me_tn (c : CK X W G k af) {t : Tn} {z : Str} {p : Pos} (h : t ≠ .non) (hz : z = Str.ofString t.nm) (hg : Gl X z) : PE X (.Name z p) (tC (.ty t.nm)) := by
  subst hz
  obtain ⟨h1, h2, h3⟩ := tn_boot t h
  exact pe_bltn hg (c.g.blt _ (by cases t <;> first | decide +kernel | exact absurd rfl h)) h1 rfl h2 h3
theorem me_isi1 (c : CK X W G k af) {a : CE} {t : Tn} {e : Expr} {z : Str} {p pz pos : Pos} (hg : Gl X "isinstance") (ha : PE X e (Tm X.K W (RD X.K) (evalE G a))) (hp : plainE e = true) (ht : t ≠ .non) (hz : z = Str.ofString t.nm) (hgz : Gl X z) :
    PE X (.Call (.Name "isinstance" p) [e, .Name z pz] [] pos) (Tm X.K W (RD X.K) (evalE G (.isi a true [t]))) := by
  have hv : bootBuiltins "isinstance" = some (.builtin "isinstance") := by decide +kernel
  have hm : X.mg "isinstance" = none := c.g.blt _ (by decide +kernel)
  refine (pe_callB call_isi hg hm hv (pa_cons ha (pa_cons (me_tn c ht hz hgz) pa_nil rfl) (star_plain hp)) (by decide +kernel) (by decide +kernel) (star_plain hp) rfl).imp fun σ H Q ⟨φ, F, en, m, mr, er, q⟩ => ⟨φ, F, en, m, mr, er, Pst.bind q fun x m1 φ1 F1 H1 v _ s1 mr1 r1 q1 => ?_⟩
  unfold isiD at q1
  cases hc : tyD m1 x with
  | none => rw [hc] at q1; exact q1.elim
  | some u =>
    rw [hc] at q1
    exact ⟨v, .ty t.nm, .type u.nm, .type t.nm, isaD u t, rfl, .ty _, tyD_rep mr1 r1 hc, kit_isa _ _ _ ht, by
      have q2 := q1.okQ mr1 (.bl _)
      simpa using q2⟩
theorem pa_tns (c : CK X W G k af) : ∀ {ts : List Tn} {es : List Expr}, tyNams X.env.scope ts es = true → PA X es (fun σ H Q => Q (ts.map fun t => V.ty t.nm) H) ∧ ∀ t ∈ ts, t ≠ .non
  | [], [], _ => ⟨pa_nil, fun _ h => by cases h⟩
  | [], _ :: _, h => by simp [tyNams] at h
  | t :: ts, [], h => by simp [tyNams] at h
  | t :: ts, e :: es, h => by
    cases e with
    | Name y p =>
      simp only [tyNams, Bool.and_eq_true] at h
      obtain ⟨⟨⟨h1, h2⟩, h3⟩, h4⟩ := h
      obtain ⟨r1, r2⟩ := pa_tns c h4
      have h1 := of_decide_eq_true h1
      refine ⟨(pa_cons (me_tn c h1 (of_decide_eq_true h2) (gl_of h3)) r1 rfl).imp fun σ H Q q => q, fun u hu => ?_⟩
      rcases List.mem_cons.mp hu with z | z
      · rw [z]; exact h1
      · exact r2 u z
    | _ => simp [tyNams] at h
theorem clsV_all : ∀ ts : List Tn, Paired ClsV (ts.map fun t => V.ty t.nm) (ts.map fun t => Value.type t.nm)
  | [] => .nil
  | t :: ts => .cons (.ty _) (clsV_all ts)
theorem me_isiT (c : CK X W G k af) {a : CE} {ts : List Tn} {e : Expr} {es : List Expr} {n : Nat} {p pz pos : Pos} (hg : Gl X "isinstance") (ha : PE X e (Tm X.K W (RD X.K) (evalE G a))) (hp : plainE e = true) (hl : ts.length ≤ 10) (ht : tyNams X.env.scope ts es = true) :
    PE X (.Call (.Name "isinstance" p) [e, .Tuple es n pz] [] pos) (Tm X.K W (RD X.K) (evalE G (.isi a false ts))) := by
  have hv : bootBuiltins "isinstance" = some (.builtin "isinstance") := by decide +kernel
  have hm : X.mg "isinstance" = none := c.g.blt _ (by decide +kernel)
  obtain ⟨pt, hn⟩ := pa_tns c ht
  refine (pe_callB call_isiT hg hm hv (pa_cons ha (pa_cons (pe_tup pt) pa_nil rfl) (star_plain hp)) (by decide +kernel) (by decide +kernel) (star_plain hp) rfl).imp fun σ H Q ⟨φ, F, en, m, mr, er, q⟩ => ⟨φ, F, en, m, mr, er, Pst.bind q fun x m1 φ1 F1 H1 v _ s1 mr1 r1 q1 => ?_⟩
  unfold isiD at q1
  cases hc : tyD m1 x with
  | none => rw [hc] at q1; exact q1.elim
  | some u =>
    rw [hc] at q1
    refine ⟨by rw [List.length_map, sizeLine_eq]; omega, fun tp htp => ?_⟩
    obtain ⟨mr2, s2⟩ := mr1.freeze (o := .tup (ts.map fun t => V.ty t.nm)) htp
    exact ⟨v, tp, _, .type u.nm, _, ts.any (isaD u), rfl, upd_same, clsV_all ts, tyD_rep mr2 (r1.mono s2.pre s2.fx) hc, kit_all _ _ _ hn, Pst.okQ (Pst.step s2 q1) mr2 (.bl _)⟩
/-! ### what is walked -/
/-- lists, tuples, texts -/
def iAll (K : PySem.W.Frag) (te : TE) : TI := fun σ H R => te σ H fun x H1 => (∃ a, x = .ref a ∧ (∃ xs, SqL K H1 a xs) ∧ R (Itl K a) H1) ∨ (∃ a, x = .ref a ∧ (∃ xs, SqT K H1 a xs) ∧ R (Itt K a) H1) ∨ ∃ z, x = .str z ∧ R (Its z) H1
theorem pi_all {tg l : Expr} {te : TE} (hl : PE X l te) : PI X tg l (iAll X.K te) := by
  refine ⟨fun pins s σ H R I h => ?_⟩
  refine thn (hl.run pins s σ H _ I h) fun v s1 ⟨x, H1, I1, r1, q1⟩ => ?_
  rcases q1 with ⟨a, e, ⟨xs, hq⟩, q⟩ | ⟨a, e, ⟨xs, hq⟩, q⟩ | ⟨z, e, q⟩
  · subst e
    cases r1
    obtain ⟨its, rv, p, hz⟩ := I1.list hq
    refine wpAny_pyIter_list p.isList ?_
    refine ⟨s1.heap.objs.size, [s1.heap.objs.size], _, _, H1, rfl, I1.kept (t' := s1.toks) fun b o e => Heap.get?_push_of_some _ e, turn_list a _, ⟨_, Heap.get?_push_size _ rfl, rfl, rfl⟩, fun b hb => ?_, q⟩
    have e : b = s1.heap.objs.size := by simpa using hb
    subst e
    exact I1.fpOk (Nat.le_refl _) (I1.hok.fresh (Nat.le_refl _))
  · subst e
    cases r1
    obtain ⟨its, rv, p, hz⟩ := I1.tuple hq
    refine wpAny_pyIter_tuple (show s1.heap.IsTuple a its.toArray from p) ?_
    refine ⟨s1.heap.objs.size, [s1.heap.objs.size], _, _, H1, rfl, I1.kept (t' := s1.toks) fun b o e => Heap.get?_push_of_some _ e, turn_tuple a _, ⟨_, Heap.get?_push_size _ rfl, rfl, rfl⟩, fun b hb => ?_, q⟩
    have e : b = s1.heap.objs.size := by simpa using hb
    subst e
    exact I1.fpOk (Nat.le_refl _) (I1.hok.fresh (Nat.le_refl _))
  · subst e
    obtain ⟨t, rfl⟩ := r1
    cases ha : z.cps.all (· < 128)
    · exact wpAny_pyIter_wide ha (pi_one (tk := s1.toks) I1 _ (turn_str _ z t "str_iterator" (.inr rfl)) ⟨_, Heap.get?_push_size _ rfl, rfl, rfl⟩ q)
    · exact wpAny_pyIter_ascii ha (pi_one (tk := s1.toks) I1 _ (turn_str _ z t "str_ascii_iterator" (.inl rfl)) ⟨_, Heap.get?_push_size _ rfl, rfl, rfl⟩ q)
theorem mi_seq {tg : Expr} {a : CE} {e : Expr} (ha : PE X e (Tm X.K W (RD X.K) (evalE G a))) : PI X tg e (TIm X W G (.seq a)) := by
  refine (pi_all ha).imp fun σ H R ⟨φ, F, en, m, mr, er, q⟩ => ⟨φ, F, en, m, mr, er, Pst.bind q fun x m1 φ1 F1 H1 v _ s1 mr1 r1 q1 => ?_⟩
  obtain ⟨J, hJ, q2⟩ := q1.retO
  cases r1 with
  | tup h1 h2 =>
    cases hJ
    exact .inr (.inl ⟨_, rfl, ⟨_, SqT.of (mr1.ext _ _ h1)⟩, q2.okQ mr1 (ri_tup (SqT.of h1) h2)⟩)
  | lst h1 h2 =>
    cases hJ
    exact .inl ⟨_, rfl, ⟨_, SqL.of (mr1.ext _ _ h1)⟩, q2.okQ mr1 (ri_list (SqL.of h1) h2)⟩
  | inp h1 =>
    cases hJ
    exact .inl ⟨_, rfl, ⟨_, mr1.ext.sqL h1⟩, q2.okQ mr1 (ri_list h1 RepL.ints)⟩
  | str z =>
    cases hJ
    exact .inr (.inr ⟨z, rfl, q2.okQ mr1 ri_str⟩)
  | @ptr a n hn =>
    simp only [itSeq] at hJ
    cases e1 : m1[n]? with
    | none => rw [e1] at hJ; cases hJ
    | some cl =>
      rw [e1] at hJ
      cases cl with
      | lst ys =>
        cases hJ
        obtain ⟨_, ws, h1, h2⟩ := mr1.cell n a _ hn e1
        exact .inl ⟨a, rfl, ⟨_, SqL.of h1⟩, q2.okQ mr1 ⟨a, hn, rfl⟩⟩
      | _ => cases hJ
  | _ => cases hJ
theorem rng_of {i j : Int} {ds : List D} (h : rngD i j = some ds) : (-(2 ^ 62) ≤ i ∧ i < 2 ^ 62 ∧ -(2 ^ 62) ≤ j ∧ j < 2 ^ 62) ∧ ds = (List.range (j - i).toNat).map fun k => .int (i + (k : Nat)) := by
  unfold rngD at h
  split at h
  · rename_i q
    cases h
    exact ⟨q, rfl⟩
  · cases h
theorem mi_rng1 (c : CK X W G k af) {tg : Expr} {a : CE} {e : Expr} {p pos : Pos} (hg : Gl X "range") (ha : PE X e (Tm X.K W (RD X.K) (evalE G a))) (hp : plainE e = true) : PI X tg (.Call (.Name "range" p) [e] [] pos) (TIm X W G (.rng1 a)) := by
  have hm : X.mg "range" = none := c.g.blt _ (by decide +kernel)
  refine (pi_range1 hg hm (pa_cons ha pa_nil (star_plain hp)) (star_plain hp)).imp fun σ H R ⟨φ, F, en, m, mr, er, q⟩ => ⟨φ, F, en, m, mr, er, Pst.bind q fun x m1 φ1 F1 H1 v _ s1 mr1 r1 q1 => ?_⟩
  cases x with
  | int j =>
    cases r1
    obtain ⟨J, hJ, q2⟩ := q1.retO
    obtain ⟨ds, hd, rfl⟩ := Option.map_eq_some_iff.mp hJ
    obtain ⟨⟨b1, b2, b3, b4⟩, rfl⟩ := rng_of hd
    refine ⟨j, rfl, b3, b4, q2.okQ mr1 ?_⟩
    have := ri_range (K := X.K) (φ := φ1) (F := F1) (lo := 0) (n := j.toNat)
    rw [show j.toNat = (j - 0).toNat by omega] at this
    rw [show j.toNat = (j - 0).toNat by omega]
    exact this
  | _ => exact q1.elim
theorem mi_rng2 (c : CK X W G k af) {tg : Expr} {a b : CE} {e e' : Expr} {p pos : Pos} (hg : Gl X "range") (ha : PE X e (Tm X.K W (RD X.K) (evalE G a))) (hb : PE X e' (Tm X.K W (RD X.K) (evalE G b))) (hp : plainE e = true) (hp' : plainE e' = true) : PI X tg (.Call (.Name "range" p) [e, e'] [] pos) (TIm X W G (.rng2 a b)) := by
  have hm : X.mg "range" = none := c.g.blt _ (by decide +kernel)
  refine (pi_range2 hg hm (pa_cons ha (pa_cons hb pa_nil (star_plain hp')) (star_plain hp)) (by rw [star_plain hp, star_plain hp']; rfl) (star_plain hp')).imp fun σ H R ⟨φ, F, en, m, mr, er, q⟩ => ⟨φ, F, en, m, mr, er, Pst.bind q fun x m1 φ1 F1 H1 v _ s1 mr1 r1 q1 => ?_⟩
  refine ⟨φ1, F1, en, m1, mr1, er.mono s1.pre s1.fx, q1.bind fun y m2 φ2 F2 H2 w _ s2 mr2 r2 q2 => ?_⟩
  cases x with
  | int i =>
    cases y with
    | int j =>
      cases r1
      cases r2
      obtain ⟨J, hJ, q3⟩ := q2.retO
      obtain ⟨ds, hd, rfl⟩ := Option.map_eq_some_iff.mp hJ
      obtain ⟨hb, rfl⟩ := rng_of hd
      exact ⟨i, j, rfl, hb, q3.okQ mr2 ri_range⟩
    | _ => exact q2.elim
  | _ => exact q2.elim
theorem walk_revT {K : PySem.W.Frag} {a : Addr} {xs : List V} : Walk (RT.ItvT K a xs.length) xs.length (fun H => SqT K H a xs) (fun i H x H' => H' = H ∧ xs[xs.length - 1 - i]? = some x) :=
  ⟨fun i _ hi q => ⟨hi, xs, xs[xs.length - 1 - i]'(by omega), q, by simp [show xs.length - 1 - i < xs.length by omega]⟩, fun _ _ => Nat.le_refl _, fun _ _ _ _ _ q y => ⟨y.1, y.2 xs q⟩⟩
theorem ri_revT {K : PySem.W.Frag} {φ : List Addr} {F : Hp} {a : Addr} {ds : List D} {vs : List V} (h : SqT K F a vs) (r : RepL K φ F ds vs) : RI K φ F (.fix ds.reverse) (RT.ItvT K a vs.length) := by
  have w := walk_revT (K := K) (a := a) (xs := vs)
  have e : ds.reverse.length = vs.length := by rw [List.length_reverse, r.len]
  show Walk _ ds.reverse.length _ _
  rw [e]
  refine Walk.mono w (fun H s => Sub.sqT s h) fun i H x H' hi _ ⟨e, hx⟩ => ?_
  obtain ⟨d, h1, h2⟩ := r.getV hx
  refine ⟨d, ?_, .inl ⟨e, h2⟩⟩
  rw [List.getElem?_reverse (by rw [← r.len]; exact hi), ← r.len]
  exact h1
theorem mi_rev (c : CK X W G k af) {tg : Expr} {a : CE} {e : Expr} {p pos : Pos} (hg : Gl X "reversed") (ha : PE X e (Tm X.K W (RD X.K) (evalE G a))) (hp : plainE e = true) : PI X tg (.Call (.Name "reversed" p) [e] [] pos) (TIm X W G (.rev a)) := by
  have hm : X.mg "reversed" = none := c.g.blt _ (by decide +kernel)
  refine (RT.pi_revA hg hm ha (star_plain hp)).imp fun σ H R ⟨φ, F, en, m, mr, er, q⟩ => ⟨φ, F, en, m, mr, er, Pst.bind q fun x m1 φ1 F1 H1 v _ s1 mr1 r1 q1 => ?_⟩
  cases r1 with
  | tup h1 h2 => exact ⟨_, _, rfl, .inr ⟨SqT.of (mr1.ext _ _ h1), q1.okQ mr1 (ri_revT (SqT.of h1) h2)⟩⟩
  | lst h1 h2 => exact ⟨_, _, rfl, .inl ⟨SqL.of (mr1.ext _ _ h1), q1.okQ mr1 (ri_rev (SqL.of h1) h2)⟩⟩
  | _ => exact q1.elim
/-! ### comprehensions -/
/-- a turn's work by data -/
def lcBody (G : Gx) (elt : CE) (t : CT) (ifs : CEs) (e : EnvD) (d : D) (m : Mem) : Res (Option D) := match bindT t d m e with
  | some e' => (evalAnd G ifs e' m).noExc.bind fun b m => if b then (evalE G elt e' m).noExc.bind fun d m => .ok (some d) m else .ok none m
  | none => .stuck
abbrev W0 : WX := fun _ _ _ _ => False
theorem noExc_bind {α β : Type} {r : Res α} {k : α → Mem → Res β} {K : PySem.W.Frag} {γ δ : Type} {R : List Addr → Hp → γ → δ → Prop} {σ : L2.St} {φ : List Addr} {F H : Hp} {Q : δ → Hp → Prop} {f : β → Mem → Res γ}
    (h : Pst K W R σ φ F H ((r.noExc.bind k).bind f) Q) : ∃ a m, r = .ok a m ∧ Pst K W R σ φ F H ((k a m).bind f) Q := by
  cases r with
  | stuck => exact h.elim
  | exc _ _ => exact h.elim
  | ok a m => exact ⟨a, m, rfl, h⟩
theorem bind_assoc {α β γ : Type} (r : Res α) (f : α → Mem → Res β) (g : β → Mem → Res γ) : (r.bind f).bind g = r.bind fun a m => (f a m).bind g := by
  cases r <;> rfl
/-- one turn -/
theorem lc_turn {elt : CE} {t : CT} {ifs : CEs} {mu : Bool} {vs : List Nat} {φ1 φ' : List Addr} {F1 F' H1 H' : Hp} {Dd : Addr} {acc : List D} {accv : List V} {m' : Mem} {d : D} {x : V} {en : EnvD} {σ : L2.St} {Q : VK}
    {nxt : List D → Mem → Res (List D)} {Nx : Hp → Prop} (hsl : ∀ j ∈ slotsT t, j ∈ vs) (a : Pend φ1 F1 H1 Dd (.lst accv) φ' F' H') (mr : MR X.K φ' F' H' m') (ra : RepL X.K φ' F' acc accv) (rx : Rep X.K φ' F' d x) (er : EnvR X.K φ' F' (wipeE en vs) (L2.wipe σ vs))
    (q : Pst X.K W (RD X.K) σ φ1 F1 H1 (((lcBody G elt t ifs (wipeE en vs) d m').bind fun o m => match o with
      | some d => if acc.length < line then nxt (acc ++ [d]) m else .stuck
      | none => nxt acc m).bind fun xs m => newL mu xs m) Q)
    (hN : ∀ (φ : List Addr) (F H : Hp) (m : Mem) (acc : List D) (accv : List V), Pend φ1 F1 H1 Dd (.lst accv) φ F H → MR X.K φ F H m → RepL X.K φ F acc accv → Pst X.K W (RD X.K) σ φ1 F1 H1 ((nxt acc m).bind fun xs m => newL mu xs m) Q → Nx H) :
    TGm X.K t x (L2.wipe σ vs) H' fun σ2 H2 => L2.wipe σ2 vs = L2.wipe σ vs ∧ Tm X.K W0 RQ (evalAnd G ifs) σ2 H2 fun b H3 =>
      if b = true then Tm X.K W0 (RD X.K) (evalE G elt) σ2 H3 fun y H4 => ∃ acc, H4 Dd = some (.lst acc) ∧ acc.length < sizeLine ∧ Nx (upd H4 Dd (.lst (acc ++ [y]))) else Nx H3 := by
  unfold lcBody at q
  cases hb : bindT t d m' (wipeE en vs) with
  | none => rw [hb] at q; exact q.elim
  | some e' =>
    rw [hb] at q
    refine ⟨φ', F', _, m', d, e', mr, er, rx, hb, fun σ' er' hk => ⟨hk.wipe hsl, φ', F', e', m', mr, er', ?_⟩⟩
    rw [bind_assoc] at q
    obtain ⟨b, m2, eb, q⟩ := noExc_bind q
    rw [eb]
    intro φ2 F2 H2 b' s2 mr2 hbb
    subst hbb
    have a2 := a.step s2
    cases b with
    | false =>
      rw [if_neg (by decide)]
      exact hN φ2 F2 H2 m2 acc accv a2 mr2 (ra.mono s2.pre s2.fx) q
    | true =>
      rw [if_pos rfl]
      refine ⟨φ2, F2, e', m2, mr2, er'.mono s2.pre s2.fx, ?_⟩
      rw [if_pos rfl] at q
      obtain ⟨y, m3, ey, q⟩ := noExc_bind q
      rw [ey]
      intro φ3 F3 H3 y' s3 mr3 ry
      have a3 := a2.step s3
      have q : Pst X.K W (RD X.K) σ φ1 F1 H1 ((if acc.length < line then nxt (acc ++ [y]) m3 else .stuck).bind fun xs m => newL mu xs m) Q := q
      split at q
      · rename_i hl
        have ra3 := (ra.mono s2.pre s2.fx).mono s3.pre s3.fx
        refine ⟨accv, a3.hp, by rw [ra3.len]; exact line_lt hl, ?_⟩
        exact hN φ3 F3 _ m3 _ _ a3.put (mr3.other (tc := a3.tc) a3.hp a3.nφ a3.nF) (ra3.append (.cons ry .nil)) q
      · exact q.elim
theorem me_lc {mu : Bool} {elt : CE} {t : CT} {it : CI} {ifs : CEs} {ow : List (Str × Nat)} {e tg iter : Expr} {es : List Expr} {scope : Scope} {pos : Pos} (hc : X.calm = true) (hN : X.N.Nodup) (hi : PI X tg iter (TIm X W G it)) (ok : BlkOk X.N X.env.scope scope ow)
    (hsl : ∀ j ∈ slotsT t, j ∈ ow.map (·.2))
    (hg : ∀ (s : Shared) (H : Hp) (C : Addr) (cl : List (Str × Addr)) (fp : List Addr), PG (X.blk s H scope (compEnvC scope cl C X.env) fp) tg (TGm X.K t)) (ht : ∀ (s : Shared) (H : Hp) (C : Addr) (cl : List (Str × Addr)) (fp : List Addr), PTs (X.blk s H scope (compEnvC scope cl C X.env) fp) es (Tm X.K W0 RQ (evalAnd G ifs)))
    (he : ∀ (s : Shared) (H : Hp) (C : Addr) (cl : List (Str × Addr)) (fp : List Addr), PE (X.blk s H scope (compEnvC scope cl C X.env) fp) e (Tm X.K W0 (RD X.K) (evalE G elt))) :
    ∀ {σ : L2.St} {H : Hp} {Q : VK}, Tm X.K W (RD X.K) (evalE G (.lc mu elt t it ifs ow)) σ H Q → tLc (TIm X W G it) (TGm X.K t) (Tm X.K W0 RQ (evalAnd G ifs)) (Tm X.K W0 (RD X.K) (evalE G elt)) (ow.map (·.2)) σ H Q := by
  intro σ H Q ⟨φ, F, en, m, mr, er, q⟩
  refine ⟨φ, F, en, m, mr, er, Pst.bind q fun Jd m1 φ1 F1 H1 J _ s1 mr1 r1 q1 => fun Dd hD => ?_⟩
  have er1 := er.mono s1.pre s1.fx
  have q1 : Pst X.K W (RD X.K) σ φ1 F1 H1 ((lcIt (lcBody G elt t ifs (wipeE en (ow.map (·.2)))) Jd m1).bind fun xs m => newL mu xs m) Q := q1
  have a1 : Pend φ1 F1 H1 Dd (.lst []) φ1 F1 (upd H1 Dd (.lst [])) := Pend.start mr1 hD
  have mr1' := mr1.alloc (o := .lst []) hD
  cases Jd with
  | fix ds =>
    have q1 : Pst X.K W (RD X.K) σ φ1 F1 H1 ((lcFix (lcBody G elt t ifs (wipeE en (ow.map (·.2)))) ds [] m1).bind fun xs m => newL mu xs m) Q := q1
    refine lc_it r1 (fun i H => ∃ φ' F' m' acc accv, Pend φ1 F1 H1 Dd (.lst accv) φ' F' H ∧ MR X.K φ' F' H m' ∧ RepL X.K φ' F' acc accv ∧ Pst X.K W (RD X.K) σ φ1 F1 H1 ((lcFix (lcBody G elt t ifs (wipeE en (ow.map (·.2)))) (ds.drop i) acc m').bind fun xs m => newL mu xs m) Q)
      ⟨φ1, F1, m1, [], [], a1, mr1', .nil, by rw [List.drop_zero]; exact q1⟩ (fun i H _ ⟨φ', F', m', acc, accv, a, mr, ra, q⟩ => a.st.fx.trans mr.ext) (fun i x H H' hi ⟨φ', F', m', acc, accv, a, mr, ra, q⟩ ⟨d, hd, y⟩ => ?_) fun H ⟨φ', F', m', acc, accv, a, mr, ra, q⟩ => ?_
    · have hdr : ds.drop i = d :: ds.drop (i + 1) := by
        obtain ⟨h1, h2⟩ := List.getElem?_eq_some_iff.mp hd
        rw [List.drop_eq_getElem_cons h1, h2]
      rw [hdr] at q
      rcases y with ⟨e, r⟩ | ⟨T, xs, es, e1, e2, e3, e4, r⟩
      · subst e
        exact lc_turn (t := t) hsl a mr ra (r.mono a.st.pre a.st.fx) ((er1.mono a.st.pre a.st.fx).wipe _) q fun φ3 F3 H3 m3 acc3 accv3 a3 mr3 ra3 q3 => ⟨φ3, F3, m3, acc3, accv3, a3, mr3, ra3, q3⟩
      · subst e1 e3 e4
        obtain ⟨mr2, s2⟩ := mr.freeze (o := .tup xs) e2
        have a2 := a.step s2
        exact lc_turn (t := t) hsl a2 mr2 (ra.mono s2.pre s2.fx) (.tup upd_same ((r.mono a.st.pre a.st.fx).mono s2.pre s2.fx)) ((er1.mono a2.st.pre a2.st.fx).wipe _) q fun φ3 F3 H3 m3 acc3 accv3 a3 mr3 ra3 q3 => ⟨φ3, F3, m3, acc3, accv3, a3, mr3, ra3, q3⟩
    · rw [List.drop_length] at q
      exact a.newL mr ra q
  | liv n =>
    obtain ⟨la, hla, rfl⟩ := r1
    have q1 : Pst X.K W (RD X.K) σ φ1 F1 H1 ((lcLiv (lcBody G elt t ifs (wipeE en (ow.map (·.2)))) n line 0 [] m1).bind fun xs m => newL mu xs m) Q := q1
    refine ⟨fun i mm H => ∃ φ' F' m' acc accv, Pend φ1 F1 H1 Dd (.lst accv) φ' F' H ∧ MR X.K φ' F' H m' ∧ RepL X.K φ' F' acc accv ∧ Pst X.K W (RD X.K) σ φ1 F1 H1 ((lcLiv (lcBody G elt t ifs (wipeE en (ow.map (·.2)))) n mm i acc m').bind fun xs m => newL mu xs m) Q,
      ⟨line, φ1, F1, m1, [], [], a1, mr1', .nil, q1⟩, ?_⟩
    rintro i mm H ⟨φ', F', m', acc, accv, a, mr, ra, q⟩
    rw [lcLiv_eq] at q
    have hn := a.st.pre.get hla
    cases e1 : m'[n]? with
    | none => rw [e1] at q; exact q.elim
    | some cl =>
      rw [e1] at q
      cases cl with
      | lst ys =>
        obtain ⟨_, ws, h1, h2⟩ := mr.cell n la _ hn e1
        simp only at q
        cases e2 : ys[i]? with
        | none =>
          rw [e2] at q
          refine .inl ⟨⟨ws, SqL.of h1, ?_⟩, a.newL mr ra q⟩
          rw [h2.len]
          exact List.getElem?_eq_none_iff.mp e2
        | some y =>
          rw [e2] at q
          obtain ⟨yv, h3, h4⟩ := h2.get e2
          cases mm with
          | zero => exact q.elim
          | succ mm =>
            refine .inr ⟨⟨ws, yv, SqL.of h1, h3⟩, fun H => ∃ φ' F' m' acc accv, Pend φ1 F1 H1 Dd (.lst accv) φ' F' H ∧ MR X.K φ' F' H m' ∧ RepL X.K φ' F' acc accv ∧ Pst X.K W (RD X.K) σ φ1 F1 H1 ((lcLiv (lcBody G elt t ifs (wipeE en (ow.map (·.2)))) n mm (i + 1) acc m').bind fun xs m => newL mu xs m) Q,
              fun H' h => ⟨mm, Nat.lt_succ_self _, h⟩, fun x H' ⟨e, hx⟩ => ?_⟩
            subst e
            have hxx := hx ws (SqL.of h1)
            rw [h3] at hxx
            cases hxx
            exact lc_turn (t := t) hsl a mr ra h4 ((er1.mono a.st.pre a.st.fx).wipe _) q fun φ3 F3 H3 m3 acc3 accv3 a3 mr3 ra3 q3 => ⟨φ3, F3, m3, acc3, accv3, a3, mr3, ra3, q3⟩
      | _ => exact q.elim
end
end Mi

set_option Elab.async false
set_option linter.all false
set_option maxRecDepth 100000
set_option maxHeartbeats 4000000
/-! MiE6: zip over lists, tuples and texts in any mix; sorted(set(t)) of a tuple of ints. -/
namespace L2
open PySem PySem.Spec PyProof.Rows
/-- one thing that zip walks: a list, a tuple, a text -/
inductive Zs where
  | l (a : Addr) (xs : List V) | t (a : Addr) (xs : List V) | s (z : Str)
def Zs.v : Zs → V
  | .l a _ => .ref a
  | .t a _ => .ref a
  | .s z => .str z
def Zs.items : Zs → List V
  | .l _ xs => xs
  | .t _ xs => xs
  | .s z => z.cps.toList.map fun c => V.str ⟨#[c]⟩
def Zs.has (K : PySem.W.Frag) (H : Hp) : Zs → Prop
  | .l a xs => SqL K H a xs
  | .t a xs => SqT K H a xs
  | .s _ => True
def Zs.ist (tk : Tok) (it : Addr) (i : Nat) (h : Heap) : Zs → Prop
  | .l a _ => h.IsListIter it a i
  | .t a _ => h.IsTupleIter it a i
  | .s z => h.IsStrIter it (strIterType z) z tk i
def Zs.ap (it : Addr) : Zs → Prop
  | .l a _ => a ≠ it
  | .t a _ => a ≠ it
  | .s _ => True
theorem Zs.ist_at {z : Zs} {tk : Tok} {it : Addr} {i : Nat} {h h' : Heap} (st : z.ist tk it i h) (k : ∀ o, h.get? it = some o → h'.get? it = some o) : z.ist tk it i h' := by
  cases z with
  | l a xs => exact Heap.IsListIter.at st k
  | t a xs => exact Heap.IsTupleIter.at st k
  | s z => obtain ⟨o, ho, r⟩ := st; exact ⟨o, k o ho, r⟩
theorem Zs.ist_obj {z : Zs} {tk : Tok} {it : Addr} {i : Nat} {h : Heap} (st : z.ist tk it i h) : ∃ o, h.get? it = some o ∧ ∀ v, o.data ≠ .cell v := by
  cases z <;> (obtain ⟨o, ho, _, hd⟩ := st; exact ⟨o, ho, fun v q => by rw [hd] at q; cases q⟩)
section
variable {X : Cx} {pins : List (Addr × Obj)} {σ : St} {H : Hp} {s : Shared}
theorem Zs.draws {z : Zs} {tk : Tok} {it : Addr} {i : Nat} (hc : X.A.handled = none) (I : Inv X pins σ H s) (hh : z.has X.K H) (ap : z.ap it) (st : z.ist tk it i s.heap) :
    ∃ (fp : List Addr) (P : Nat → Value → Prop) (St : Nat → Heap → Prop), Draws X.prog X.w X.A.in1 it fp z.items.length P St ∧ St i s.heap ∧ (∀ j h, St j h → z.ist tk it j h) ∧ (∀ j x, P j x → ∃ v, z.items[j]? = some v ∧ RelV v x) ∧
      it ∈ fp ∧ ∀ b ∈ fp, b = it ∨ (¬ z.ap b ∧ b < s.heap.objs.size) := by
  have hh1 : X.A.in1.handled = none := by simp [hc]
  have rev : ∀ {xs : List V} {us : List Value}, Vals xs us → ∀ (j : Nat) (x : Value), us.toArray[j]? = some x → ∃ v, xs[j]? = some v ∧ RelV v x := fun {xs us} r j x e => by
    rw [List.getElem?_toArray] at e
    have hl := r.length
    have hj : j < xs.length := by
      have := (List.getElem?_eq_some_iff.mp e).1
      omega
    obtain ⟨u, h1, h2⟩ := r.get (List.getElem?_eq_getElem hj)
    rw [e] at h1
    cases h1
    exact ⟨_, List.getElem?_eq_getElem hj, h2⟩
  cases z with
  | l a xs =>
    obtain ⟨its, rv, p, _⟩ := I.list hh
    have hl := rv.length
    have D := Draws.list (prog := X.prog) (w := X.w) hh1 it a ap its.toArray
    have e : its.toArray.size = (Zs.l a xs).items.length := by rw [List.size_toArray]; exact hl.symm
    rw [e] at D
    refine ⟨_, _, _, D, ⟨st, p.isList⟩, fun j h q => q.1, fun j x q => rev rv j x q, by simp, fun b hb => ?_⟩
    rcases List.mem_cons.mp hb with q | q
    · exact .inl q
    · rw [List.mem_singleton] at q
      subst q
      exact .inr ⟨fun z => z rfl, p.lt⟩
  | t a xs =>
    obtain ⟨its, rv, p, _⟩ := I.tuple hh
    have hl := rv.length
    have D := Draws.tuple (prog := X.prog) (w := X.w) hh1 it a ap its.toArray
    have e : its.toArray.size = (Zs.t a xs).items.length := by rw [List.size_toArray]; exact hl.symm
    rw [e] at D
    refine ⟨_, _, _, D, ⟨st, p⟩, fun j h q => q.1, fun j x q => rev rv j x q, by simp, fun b hb => ?_⟩
    rcases List.mem_cons.mp hb with q | q
    · exact .inl q
    · rw [List.mem_singleton] at q
      subst q
      obtain ⟨o, ho, _⟩ := p
      exact .inr ⟨fun z => z rfl, Heap.lt_size ho⟩
  | s z =>
    have D := Draws.text (prog := X.prog) (w := X.w) hh1 it z tk
    have e : z.cps.size = (Zs.s z).items.length := by simp [Zs.items]
    rw [e] at D
    refine ⟨_, _, _, D, st, fun j h q => q, fun j x ⟨c, u, h1, h2⟩ => ⟨.str ⟨#[c]⟩, ?_, u, h2⟩, by simp, fun b hb => .inl (by simpa using hb)⟩
    show (z.cps.toList.map fun c => V.str ⟨#[c]⟩)[j]? = _
    rw [List.getElem?_map, Array.getElem?_toList, h1]
    rfl
end
/-- the two, in new pairs -/
def ItzM (K : PySem.W.Frag) (a b : Zs) : It :=
  ⟨fun i H => a.has K H ∧ b.has K H ∧ i < a.items.length ∧ i < b.items.length,
    fun i H v H' => ∃ T x y, v = .ref T ∧ H T = none ∧ H' = upd H T (.tup [x, y]) ∧ a.items[i]? = some x ∧ b.items[i]? = some y,
    fun i H => a.has K H ∧ b.has K H ∧ i ≤ a.items.length ∧ i ≤ b.items.length ∧ (i = a.items.length ∨ i = b.items.length)⟩
/-- the zip's cells lie apart -/
structure ZmAp (z TI TO i1 i2 : Addr) (a b : Zs) : Prop where
  TIz : TI ≠ z
  TOz : TO ≠ z
  TITO : TI ≠ TO
  TIi1 : TI ≠ i1
  TIi2 : TI ≠ i2
  TOi1 : TO ≠ i1
  TOi2 : TO ≠ i2
  i1z : i1 ≠ z
  i2z : i2 ≠ z
  i12 : i1 ≠ i2
  a1 : a.ap i1
  az : a.ap z
  aT : a.ap TO
  a2 : a.ap i2
  b1 : b.ap i1
  bz : b.ap z
  bT : b.ap TO
  b2 : b.ap i2
theorem ZmAp.sep {z TI TO i1 i2 : Addr} {a b : Zs} (D : ZmAp z TI TO i1 i2 a b) {fp1 fp2 : List Addr} {n : Nat} (m1 : i1 ∈ fp1) (m2 : i2 ∈ fp2) (h1 : ∀ c ∈ fp1, c = i1 ∨ (¬ a.ap c ∧ c < n)) (h2 : ∀ c ∈ fp2, c = i2 ∨ (¬ b.ap c ∧ c < n)) : ZipSep2 z TI TO i1 i2 fp1 fp2 :=
  ⟨D.TIz, D.TOz, D.TITO, D.TIi1, m1, fun h => (h1 _ h).elim (fun e => D.i1z e.symm) (fun e => e.1 D.az), fun h => (h1 _ h).elim (fun e => D.TOi1 e) (fun e => e.1 D.aT), D.TIi2, m2,
    fun h => (h2 _ h).elim (fun e => D.i2z e.symm) (fun e => e.1 D.bz), fun h => (h2 _ h).elim (fun e => D.TOi2 e) (fun e => e.1 D.bT), fun h => (h2 _ h).elim (fun e => D.i12 e) (fun e => e.1 D.b1), fun h => (h1 _ h).elim (fun e => D.i12 e.symm) (fun e => e.1 D.a2)⟩
theorem turn_zipM {P : Program} {w : World} {K : PySem.W.Frag} {elts : List Expr} {kk : Nat} {tpos : Pos} {a b : Zs} {t1 t2 : Tok} {z TI TO i1 i2 : Addr} (D : ZmAp z TI TO i1 i2 a b) :
    Turn P w K (.Tuple elts kk tpos) (ItzM K a b) [z, TI, TO, i1, i2] z (fun i h => IsZip h z TI TO .none ∧ IsTupOf2 h TI (.ref i1) (.ref i2) ∧ (∃ x y, IsTupOf2 h TO x y) ∧ a.ist t1 i1 i h ∧ b.ist t2 i2 i h) where
  mem := by simp
  obj := fun i h st c hc => by
    obtain ⟨hz, hTI, ⟨x, y, hTO⟩, h1, h2⟩ := st
    have e' : c = z ∨ c = TI ∨ c = TO ∨ c = i1 ∨ c = i2 := by simpa using hc
    rcases e' with q | q | q | q | q
    · rw [q]; exact ⟨_, hz, fun v q => nomatch q⟩
    · rw [q]; exact ⟨_, hTI, fun v q => nomatch q⟩
    · rw [q]; exact ⟨_, hTO, fun v q => nomatch q⟩
    · rw [q]; exact Zs.ist_obj h1
    · rw [q]; exact Zs.ist_obj h2
  keep := fun i h h' st k => by
    obtain ⟨hz, hTI, ⟨x, y, hTO⟩, h1, h2⟩ := st
    exact ⟨k z (by simp) _ hz, k TI (by simp) _ hTI, ⟨x, y, k TO (by simp) _ hTO⟩, Zs.ist_at h1 fun o q => k i1 (by simp) o q, Zs.ist_at h2 fun o q => k i2 (by simp) o q⟩
  item := by
    intro X hP hw hK hc i pins s σ H E I hf st hg
    subst hP hw hK
    obtain ⟨hz, hTI, ⟨x0, y0, hTO⟩, h1, h2⟩ := st
    obtain ⟨g1, g2, l1, l2⟩ := hg
    obtain ⟨fp1, P1, S1, D1, s1, n1, r1, m1, f1⟩ := Zs.draws (I.ok.hd hc) I g1 D.a1 h1
    obtain ⟨fp2, P2, S2, D2, s2, n2, r2, m2, f2⟩ := Zs.draws (I.ok.hd hc) I g2 D.b2 h2
    have hzl : z < s.heap.objs.size := Heap.lt_size hz
    refine wpAny_pyNext_zipD2_item (D.sep m1 m2 f1 f2) D1 D2 hz hTI hTO s1 s2 l1 l2 fun x1 x2 h' tk p1 p2 z' TO' s1' s2' hT hsz hk => ?_
    obtain ⟨x, hx, rx⟩ := r1 _ _ p1
    obtain ⟨y, hy, ry⟩ := r2 _ _ p2
    refine ⟨_, rfl, wpAny_letOwnedTupleGo_zip (s := { s with heap := h', toks := tk }) z' fun h'' z'' sb => ?_⟩
    have hT2 : h''.get? s.heap.objs.size = some { cls := .type "tuple", data := .seq #[x1, x2] } := (sb.2 _ (Nat.ne_of_gt hzl)).trans hT
    have new : ObjOk X.prog X.w (upd H s.heap.objs.size (.tup [x, y])) h'' s.heap.objs.size (.tup [x, y]) :=
      ⟨by show 2 ≤ sizeLine; rw [sizeLine_eq]; decide, [x1, x2], .cons rx (.cons ry .nil), ⟨_, hT2, rfl, _, rfl⟩⟩
    have I1 : Inv X pins σ (upd H s.heap.objs.size (.tup [x, y])) { s with heap := h'', toks := tk } :=
      I.turnedNew (t' := tk) (ch := [z, TI, TO, i1, i2]) (fun c o hb q => (sb.2 c (fun q' => hb (by simp [q']))).trans (hk c o (fun q' => hb (by simp [q'])) (fun q' => hb (by simp [q'])) (fun q' => hb (by simp [q'])) (fun q' => hb (by simp [q'])) q)) hf (Nat.le_refl _) new
    refine ⟨.ref s.heap.objs.size, _, I1, rfl, ⟨_, x, y, rfl, I.hok.fresh (Nat.le_refl _), rfl, hx, hy⟩, ⟨z'', ?_, ⟨x1, x2, ?_⟩, ?_, ?_⟩, fun c hcm => ?_⟩
    · exact (sb.2 _ D.TIz).trans (hk _ _ D.TIz D.TITO D.TIi1 D.TIi2 hTI)
    · exact (sb.2 _ D.TOz).trans TO'
    · exact Zs.ist_at (n1 _ _ s1') fun o q => (sb.2 _ D.i1z).trans q
    · exact Zs.ist_at (n2 _ _ s2') fun o q => (sb.2 _ D.i2z).trans q
    · have hlt : c < s.heap.objs.size := by
        have e' : c = z ∨ c = TI ∨ c = TO ∨ c = i1 ∨ c = i2 := by simpa using hcm
        rcases e' with q | q | q | q | q
        · rw [q]; exact hzl
        · rw [q]; exact Heap.lt_size hTI
        · rw [q]; exact Heap.lt_size hTO
        · rw [q]; obtain ⟨_, e1, _⟩ := Zs.ist_obj h1; exact Heap.lt_size e1
        · rw [q]; obtain ⟨_, e2, _⟩ := Zs.ist_obj h2; exact Heap.lt_size e2
      rw [upd_ne (Nat.ne_of_lt hlt)]
      exact (hf c hcm).1
  done := by
    intro X hP hw hK hc i pins s σ H E I hf st hg
    subst hP hw hK
    obtain ⟨hz, hTI, ⟨x0, y0, hTO⟩, h1, h2⟩ := st
    obtain ⟨g1, g2, l1, l2, hend⟩ := hg
    obtain ⟨fp1, P1, S1, D1, s1, n1, r1, m1, f1⟩ := Zs.draws (I.ok.hd hc) I g1 D.a1 h1
    obtain ⟨fp2, P2, S2, D2, s2, n2, r2, m2, f2⟩ := Zs.draws (I.ok.hd hc) I g2 D.b2 h2
    exact wpAny_pyNext_zipD2_end (D.sep m1 m2 f1 f2) D1 D2 hz hTI hTO s1 s2 l1 l2 hend fun h' tk hk => ⟨rfl, I.turnedL (t' := tk) (ch := [z, TI, TO, i1, i2]) (fun c o hb q =>
      hk c o (fun q' => hb (by simp [q'])) (fun q' => hb (by simp [q'])) (fun q' => hb (by simp [q'])) (fun q' => hb (by simp [q'])) q) hf⟩
  self := fun A i s Q E st h => wpAny_pyIter_zip st.1 h
def iZipM (K : PySem.W.Frag) (ta : TA) : TI := fun σ H R => ta σ H fun vs H1 => ∃ a b : Zs, vs = [a.v, b.v] ∧ a.has K H1 ∧ b.has K H1 ∧ R (ItzM K a b) H1
section
variable {X : Cx} {pins : List (Addr × Obj)} {σ : St} {H : Hp} {s : Shared}
/-- where such a thing's iterator starts -/
theorem Zs.begins {z : Zs} {u : Value} (I : Inv X pins σ H s) (hh : z.has X.K H) (r : RelV z.v u) : ∃ (o : Obj) (B : Heap → Prop) (tk : Tok), Begins u o B ∧ B s.heap ∧ (∀ it h, h.get? it = some o → z.ist tk it 0 h) ∧ ∀ it, s.heap.objs.size ≤ it → z.ap it := by
  cases z with
  | l a xs =>
    obtain rfl : u = Value.ref a := r
    obtain ⟨its, rv, p, _⟩ := I.list hh
    exact ⟨_, _, 0, begins_list a its.toArray, p.isList, fun it h e => ⟨_, e, rfl, rfl⟩, fun it h => Nat.ne_of_lt (Nat.lt_of_lt_of_le p.lt h)⟩
  | t a xs =>
    obtain rfl : u = Value.ref a := r
    obtain ⟨its, rv, p, _⟩ := I.tuple hh
    obtain ⟨o, ho, _⟩ := id p
    exact ⟨_, _, 0, begins_tuple a its.toArray, p, fun it h e => ⟨_, e, rfl, rfl⟩, fun it h => Nat.ne_of_lt (Nat.lt_of_lt_of_le (Heap.lt_size ho) h)⟩
  | s z =>
    obtain ⟨t, rfl⟩ : ∃ t, u = Value.str z t := r
    exact ⟨_, _, t, begins_text z t, trivial, fun it h e => ⟨_, e, rfl, rfl⟩, fun it h => trivial⟩
theorem pi_zipM {e e2 : Expr} {ta : TA} {p pos tpos : Pos} {elts : List Expr} {kk : Nat} (hg : Gl X "zip") (hm : X.mg "zip" = none) (ha : PA X [e, e2] ta)
    (hs : starEach [e, e2] X.env = (false, eval e X.env) :: starEach [e2] X.env) (hpl : (backTo pos (starEach [e2] X.env)).any (·.1) = false) :
    PI X (.Tuple elts kk tpos) (.Call (.Name "zip" p) [e, e2] [] pos) (iZipM X.K ta) := by
  refine ⟨fun pins s σ H R I h => ?_⟩
  refine Call_ (ld_blt I hg hm PyProof.Rows.boot_zip (PyProof.Rows.callWith_type1 (thn (ha.run pos pins s σ H _ I h) fun us s1 ⟨vs, H1, I1, r1, q1⟩ => ?_) hs hpl))
  obtain ⟨a, b, ex, ga, gb, q⟩ := q1
  subst ex
  obtain ⟨u1, u2, rfl, ra, rb⟩ := vals2 r1
  obtain ⟨o1, B1, t1, b1, k1, i1, a1⟩ := Zs.begins I1 ga ra
  obtain ⟨o2, B2, t2, b2, k2, i2, a2⟩ := Zs.begins I1 gb rb
  refine zip_begins2 b1 b2 k1 k2 fun h' hz hTI hTO e1 e2 hsz hk => wpAny_pyIter_zip hz ?_
  have I2 : Inv X pins σ H1 { s1 with heap := h' } := I1.kept (t' := s1.toks) hk
  have fresh5 : ∀ c, c ∈ [s1.heap.objs.size + 4, s1.heap.objs.size + 2, s1.heap.objs.size + 3, s1.heap.objs.size, s1.heap.objs.size + 1] → FpOk X pins H1 c := fun c hcm => by
    have e' : c = s1.heap.objs.size + 4 ∨ c = s1.heap.objs.size + 2 ∨ c = s1.heap.objs.size + 3 ∨ c = s1.heap.objs.size ∨ c = s1.heap.objs.size + 1 := by simpa using hcm
    have hle : s1.heap.objs.size ≤ c := by omega
    exact I1.fpOk hle (I1.hok.fresh hle)
  refine ⟨s1.heap.objs.size + 4, [s1.heap.objs.size + 4, s1.heap.objs.size + 2, s1.heap.objs.size + 3, s1.heap.objs.size, s1.heap.objs.size + 1], _, _, H1, rfl, I2, turn_zipM (t1 := t1) (t2 := t2) ?_, ⟨hz, hTI, ⟨_, _, hTO⟩, i1 _ _ e1, i2 _ _ e2⟩, fresh5, q⟩
  refine ⟨?_, ?_, ?_, ?_, ?_, ?_, ?_, ?_, ?_, ?_, a1 _ ?_, a1 _ ?_, a1 _ ?_, a1 _ ?_, a2 _ ?_, a2 _ ?_, a2 _ ?_, a2 _ ?_⟩ <;> first | omega | (show (_ : Nat) ≠ _; omega) | (show (_ : Nat) ≤ _; omega)
end
theorem walk_zipM {K : PySem.W.Frag} {a b : Zs} {n : Nat} (hn : n = min a.items.length b.items.length) : Walk (ItzM K a b) n (fun H => a.has K H ∧ b.has K H) (YPair (fun i => a.items[i]?) (fun i => b.items[i]?)) := by
  subst hn
  exact ⟨fun i H hi q => ⟨q.1, q.2, by omega, by omega⟩, fun H q => ⟨q.1, q.2, by omega, by omega, by omega⟩, fun i H v H' hi q y => y⟩
/-- sorted(set(t)), t a tuple of ints, fewer than 60 -/
def tSrs (K : PySem.W.Frag) (ta : TE) : TE := fun σ H Q => ta σ H fun x H1 => ∃ (l : Addr) (ns : List Int), x = .ref l ∧ SqT K H1 l (ns.map V.int) ∧ ns.length ≤ 60 ∧
  ∀ (out : List Int) (p : Addr), out.Pairwise (· < ·) → (∀ k : Int, k ∈ out ↔ k ∈ ns) → H1 p = none → Q (.ref p) (upd H1 p (.lst (out.map V.int)))
theorem srt_set {X : Cx} {pins : List (Addr × Obj)} {σ : St} {H : Hp} {s : Shared} {a : Addr} {S : Int → Bool} {n : Nat} {Q : VK} (hc : X.calm = true) (I : Inv X pins σ H s) (R : SetR X.w s.heap a S n) (h64 : n < 64)
    (q : ∀ (out : List Int) (p : Addr), out.Pairwise (· < ·) → (∀ k : Int, k ∈ out ↔ S k = true) → H p = none → Q (.ref p) (upd H p (.lst (out.map V.int)))) : wpAny (model X.prog X.w) X.A (call (.builtin "sorted") [.ref a]) (EP X pins σ Q) X.xe s := by
  refine sorted_set R (I.ok.hd hc) h64 fun s' p out c ns k g o hp hg hi hs hm hl => ?_
  have hlen : (ns.map V.int).length ≤ sizeLine := by rw [List.length_map, hl, sizeLine_eq]; omega
  have hn : H p = none := I.hok.fresh hp
  have J : Inv X pins σ (upd H p (.lst (ns.map V.int))) { s with heap := s'.heap, gens := s'.gens, drawn := s'.drawn, toks := s'.toks } :=
    I.call (ch := []) (Un.laid k hp hn) (I.hok.laid k hp ⟨hlen, out.toList, c, vals_of_ints hi, hg⟩) (by rw [g]; exact I.bare) (fun _ z => nomatch z)
  have e : s' = { s with heap := s'.heap, gens := s'.gens, drawn := s'.drawn, toks := s'.toks } := by
    cases s'
    cases s
    cases o
    rfl
  rw [e]
  exact ⟨.ref p, _, J, rfl, q ns p hs hm hn⟩
theorem pe_srs {X : Cx} {a : Expr} {ta : TE} {p p2 q pos : Pos} (hc : X.calm = true) (hg : Gl X "sorted") (hm : X.mg "sorted" = none) (hg2 : Gl X "set") (hm2 : X.mg "set" = none) (ha : PE X a ta)
    (na : starEach [a] X.env = (false, eval a X.env) :: starEach [] X.env) : PE X (.Call (.Name "sorted" p) [.Call (.Name "set" p2) [a] [] q] [] pos) (tSrs X.K ta) := by
  refine ⟨fun pins s σ H Q I h => ?_⟩
  refine Call_ (ld_blt I hg hm PyProof.Rows.boot_sorted ?_)
  refine PyProof.Rows.callWith_builtin1 (PyProof.Rows.args_cons ?_ rfl) rfl rfl
  refine Call_ (ld_blt I hg2 hm2 PyProof.Rows.boot_set ?_)
  refine PyProof.Rows.callWith_type1 (PyProof.Rows.args_cons (thn (ha.run pins s σ H _ I h) fun v s1 ⟨x, H1, I1, r1, q1⟩ => PyProof.Rows.args_nil ?_) na) na rfl
  obtain ⟨l, ns, rfl, hq, hl, q1⟩ := q1
  cases r1
  obtain ⟨its, rv, pt, hz⟩ := I1.tuple hq
  have hi : IntsAre its.toArray.toList ns := ints_of_vals rv
  refine call_set_tupI ns (I1.ok.hd hc) (show s1.heap.IsTuple l its.toArray from pt) hi (by unfold scanBound; omega) fun h' tk c R1 hcn k => PyProof.Rows.args_nil ?_
  have I2 : Inv X pins σ H1 { s1 with heap := h', toks := tk } := I1.kept (t' := tk) k
  exact srt_set (s := { s1 with heap := h', toks := tk }) hc I2 R1 (by omega) fun out p hs hm hn => q1 out p hs (fun j => by rw [hm j, decide_eq_true_eq]) hn
end L2
namespace Mi
open PySem L2
variable [WW]
section
variable {X : Cx} {W : WX} {G : Gx} {k : Nat} {af : Bool}
theorem intsD_rep {K : PySem.W.Frag} {φ : List Addr} {F : Hp} : ∀ {ds : List D} {ns : List Int} {vs : List V}, intsD ds = some ns → RepL K φ F ds vs → vs = ns.map V.int
  | [], _, _, h, .nil => by cases h; rfl
  | d :: ds, ns, _, h, .cons r rs => by
    cases d with
    | int i =>
      obtain ⟨m, hm, rfl⟩ := Option.map_eq_some_iff.mp (show (intsD ds).map (i :: ·) = some ns from h)
      cases r
      rw [intsD_rep hm rs]
      rfl
    | _ => cases h
theorem me_srs (c : CK X W G k af) (hc : X.calm = true) {a : CE} {e : Expr} {p p2 q pos : Pos} (hg : Gl X "sorted") (hg2 : Gl X "set") (ha : PE X e (Tm X.K W (RD X.K) (evalE G a))) (hp : plainE e = true) :
    PE X (.Call (.Name "sorted" p) [.Call (.Name "set" p2) [e] [] q] [] pos) (Tm X.K W (RD X.K) (evalE G (.srs a))) := by
  have hm : X.mg "sorted" = none := c.g.blt _ (by decide +kernel)
  have hm2 : X.mg "set" = none := c.g.blt _ (by decide +kernel)
  refine (pe_srs hc hg hm hg2 hm2 ha (star_plain hp)).imp fun σ H Q ⟨φ, F, en, m, mr, er, q⟩ => ⟨φ, F, en, m, mr, er, Pst.bind q fun x m1 φ1 F1 H1 v _ s1 mr1 r1 q1 => ?_⟩
  unfold srsD at q1
  cases x with
  | tup xs =>
    simp only at q1
    cases hn : intsD xs with
    | none => rw [hn] at q1; exact q1.elim
    | some ns =>
      rw [hn] at q1
      simp only at q1
      split at q1
      · rename_i hl
        cases r1 with
        | tup h1 h2 =>
          have e := intsD_rep hn h2
          subst e
          refine ⟨_, ns, rfl, SqT.of (mr1.ext _ _ h1), hl, fun out p hs hm hp => ?_⟩
          rw [sorted_eq hs (sortSet_sorted ns) fun k => by rw [hm, sortSet_mem]]
          exact q1.frozL mr1 hp RepL.ints
      · exact q1.elim
  | _ => exact q1.elim
/-- what zip walks -/
def zsOf (v : V) : D → List V → Zs
  | .str z, _ => .s z
  | .lst _, xs => (match v with | .ref a => .l a xs | _ => .s "")
  | _, xs => (match v with | .ref a => .t a xs | _ => .s "")
theorem zs_of {K : PySem.W.Frag} {φ : List Addr} {F H : Hp} {m : Mem} {d : D} {v : V} {ds : List D} (mr : MR K φ F H m) (r : Rep K φ F d v) (h : seqD d = some ds) : ∃ z : Zs, z.v = v ∧ (∀ H', Sub F H' → z.has K H') ∧ RepL K φ F ds z.items := by
  cases r with
  | tup h1 h2 => cases h; exact ⟨.t _ _, rfl, fun H' s => SqT.of (s _ _ h1), h2⟩
  | lst h1 h2 => cases h; exact ⟨.l _ _, rfl, fun H' s => SqL.of (s _ _ h1), h2⟩
  | str z =>
    cases h
    refine ⟨.s z, rfl, fun H' s => trivial, ?_⟩
    show RepL K φ F (z.cps.toList.map fun c => D.str ⟨#[c]⟩) (z.cps.toList.map fun c => V.str ⟨#[c]⟩)
    generalize z.cps.toList = l
    induction l with
    | nil => exact .nil
    | cons c l ih => exact .cons (.str _) ih
  | _ => cases h
theorem zipD_get : ∀ {xs ys : List D} {i : Nat} {x y : D}, xs[i]? = some x → ys[i]? = some y → (zipD xs ys)[i]? = some (.tup [x, y])
  | [], _, _, _, _, h, _ => by simp at h
  | _ :: _, [], _, _, _, _, h => by simp at h
  | a :: xs, b :: ys, 0, x, y, h1, h2 => by simp at h1 h2; subst h1 h2; rfl
  | a :: xs, b :: ys, i + 1, x, y, h1, h2 => by
    simp only [List.getElem?_cons_succ] at h1 h2
    simp only [zipD, List.getElem?_cons_succ]
    exact zipD_get h1 h2
theorem zipD_len : ∀ xs ys : List D, (zipD xs ys).length = min xs.length ys.length
  | [], _ => by simp [zipD]
  | _ :: _, [] => by simp [zipD]
  | a :: xs, b :: ys => by
    have := zipD_len xs ys
    simp only [zipD, List.length_cons]
    omega
theorem mi_zip (c : CK X W G k af) {a b : CE} {e e' : Expr} {p pos tpos : Pos} {elts : List Expr} {kk : Nat} (hg : Gl X "zip") (ha : PE X e (Tm X.K W (RD X.K) (evalE G a))) (hb : PE X e' (Tm X.K W (RD X.K) (evalE G b))) (hp : plainE e = true) (hp' : plainE e' = true) :
    PI X (.Tuple elts kk tpos) (.Call (.Name "zip" p) [e, e'] [] pos) (TIm X W G (.zip a b)) := by
  have hm : X.mg "zip" = none := c.g.blt _ (by decide +kernel)
  refine (pi_zipM hg hm (pa_cons ha (pa_cons hb pa_nil (star_plain hp')) (star_plain hp)) (star_plain hp) (by rw [star_plain hp']; rfl)).imp fun σ H R ⟨φ, F, en, m, mr, er, q⟩ => ⟨φ, F, en, m, mr, er, Pst.bind q fun x m1 φ1 F1 H1 v _ s1 mr1 r1 q1 => ?_⟩
  refine ⟨φ1, F1, en, m1, mr1, er.mono s1.pre s1.fx, q1.bind fun y m2 φ2 F2 H2 w _ s2 mr2 r2 q2 => ?_⟩
  cases hx : seqD x with
  | none => rw [hx] at q2; exact q2.elim
  | some xs =>
    cases hy : seqD y with
    | none => rw [hx, hy] at q2; exact q2.elim
    | some ys =>
      rw [hx, hy] at q2
      obtain ⟨z1, e1, a1, l1⟩ := zs_of mr2 (r1.mono s2.pre s2.fx) hx
      obtain ⟨z2, e2, a2, l2⟩ := zs_of mr2 r2 hy
      refine ⟨z1, z2, by rw [e1, e2], a1 _ mr2.ext, a2 _ mr2.ext, q2.okQ mr2 ?_⟩
      have w := walk_zipM (K := X.K) (a := z1) (b := z2) (n := (zipD xs ys).length) (by rw [zipD_len, l1.len, l2.len])
      refine Walk.mono w (fun H s => ⟨a1 H s, a2 H s⟩) fun i H v H' hi _ ⟨T, x, y, ev, hT, eH, hx, hy⟩ => ?_
      obtain ⟨dx, h1, h2⟩ := l1.getV hx
      obtain ⟨dy, h3, h4⟩ := l2.getV hy
      exact ⟨.tup [dx, dy], zipD_get h1 h3, .inr ⟨T, [x, y], [dx, dy], ev, hT, eH, rfl, .cons h2 (.cons h4 .nil)⟩⟩
end
end Mi

set_option Elab.async false
set_option linter.all false
set_option maxRecDepth 100000
set_option maxHeartbeats 4000000
/-! MiK: what a def forgets; a lambda handed to `_law_kind`. -/
namespace Mi
open PySem L2
variable [WW]
/-! ### what a def forgets -/
section
variable {K : PySem.W.Frag} {φ φ' : List Addr} {F F' H H' : Hp} {n : Nat}
theorem get_take {a : Addr} {i : Nat} (h : φ[i]? = some a) (hi : i < n) : (φ.take n)[i]? = some a := by
  rw [List.getElem?_take, if_pos hi]
  exact h
mutual
theorem und_dNK (n : Nat) : ∀ k : NestedKey, (dNK k).und n = true
  | .none => rfl
  | .num _ => rfl
  | .text _ => rfl
  | .tup ks => by simp only [dNK, D.und]; exact undL_dNKs n ks
theorem undL_dNKs (n : Nat) : ∀ ks : List NestedKey, D.undL n (dNKs ks) = true
  | [] => rfl
  | k :: ks => by simp only [dNKs, D.undL, und_dNK n k, undL_dNKs n ks]; rfl
end
mutual
theorem Rep.und : ∀ {d : D} {v : V}, Rep K φ F d v → d.und n = true → Rep K (φ.take n) F d v
  | _, _, .non, _ => .non
  | _, _, .bl b, _ => .bl b
  | _, _, .int i, _ => .int i
  | _, _, .str x, _ => .str x
  | _, _, .tup h r, u => .tup h (RepL.und r (by simpa [D.und] using u))
  | _, _, .lst h r, u => .lst h (RepL.und r (by simpa [D.und] using u))
  | _, _, .dic h r, u => .dic h (RepK.und r (by simpa [D.und] using u))
  | _, _, .ptr h, u => .ptr (get_take h (by simpa [D.und] using u))
  | _, _, .inp h, _ => .inp h
  | _, _, .gd x, _ => .gd x
  | _, _, .exn h, _ => .exn h
theorem RepL.und : ∀ {d : List D} {v : List V}, RepL K φ F d v → D.undL n d = true → RepL K (φ.take n) F d v
  | _, _, .nil, _ => .nil
  | _, _, .cons h r, u => by
    simp only [D.undL, Bool.and_eq_true] at u
    exact .cons (Rep.und h u.1) (RepL.und r u.2)
theorem RepK.und : ∀ {d : List (Key × D)} {v : List (Key × V)}, RepK K φ F d v → D.undK n d = true → RepK K (φ.take n) F d v
  | _, _, .nil, _ => .nil
  | _, _, .cons h r, u => by
    simp only [D.undK, Bool.and_eq_true] at u
    exact .cons (Rep.und h u.1) (RepK.und r u.2)
end
theorem RepF.und : ∀ {d : List (Str × D)} {v : List (Str × V)}, RepF K φ F d v → D.undL n (d.map (·.2)) = true → RepF K (φ.take n) F d v
  | _, _, .nil, _ => .nil
  | _, _, .cons h r, u => by
    simp only [List.map_cons, D.undL, Bool.and_eq_true] at u
    exact .cons (Rep.und h u.1) (RepF.und r u.2)
theorem RepN.und : ∀ {d : List (NestedKey × D)} {v : List (NestedKey × Addr × V)}, RepN K φ F d v → D.undL n (d.map (·.2)) = true → RepN K (φ.take n) F d v
  | _, _, .nil, _ => .nil
  | _, _, .cons h1 h2 h3 r, u => by
    simp only [List.map_cons, D.undL, Bool.and_eq_true] at u
    exact .cons (h1.und (und_dNK n _)) h2 (h3.und u.1) (RepN.und r u.2)
theorem CellR.und {a : Addr} {c : Cell} (h : CellR K φ F H a c) (u : c.und n = true) : CellR K (φ.take n) F H a c := by
  cases c with
  | lst xs => obtain ⟨vs, h1, h2⟩ := h; exact ⟨vs, h1, h2.und u⟩
  | dct kvs => obtain ⟨vs, h1, h2⟩ := h; exact ⟨vs, h1, h2.und u⟩
  | nst kvs => obtain ⟨l, b, n, xs, h1, h2⟩ := h; exact ⟨l, b, n, xs, h1, h2.und u⟩
  | ins C fs => obtain ⟨dx, vs, h1, h2⟩ := h; exact ⟨dx, vs, h1, h2.und u⟩
theorem MR.settle {m m' : Mem} (mr : MR K φ F H m) (st : Stp φ F H φ' F' H') (mr' : MR K φ' F' H' m') (u : ((m'.take m.length).all (Cell.und m.length)) = true) : MR K (φ'.take m.length) F' H' (m'.take m.length) ∧ Stp φ F H (φ'.take m.length) F' H' := by
  refine ⟨⟨mr'.ext, by rw [List.length_take, List.length_take, mr'.len], mr'.nod.sublist (List.take_sublist _ _), fun i a c h1 h2 => ?_, mr'.tab, mr'.ntb⟩, ⟨?_, st.fx, st.keep, st.new, st.dom, fun a h => st.nw a (List.mem_of_mem_take h)⟩⟩
  · have hc : c ∈ m'.take m.length := List.mem_of_getElem? h2
    rw [List.getElem?_take] at h1 h2
    split at h1
    · rw [if_pos (by assumption)] at h2
      obtain ⟨q, x⟩ := mr'.cell i a c h1 h2
      exact ⟨q, x.und (List.all_eq_true.mp u c hc)⟩
    · cases h1
  · obtain ⟨ψ, e⟩ := st.pre
    refine ⟨[], ?_⟩
    rw [List.append_nil, e, ← mr.len, List.take_left]
theorem Pst.settle {W : WX} {σ : L2.St} {m m' : Mem} {d : D} {v : V} {Q : VK} (mr : MR K φ F H m) (h : Pst K W (RD K) σ φ F H (settle m.length d m') Q) (st : Stp φ F H φ' F' H') (mr' : MR K φ' F' H' m') (r : Rep K φ' F' d v) : Q v H' := by
  unfold Mi.settle at h
  split at h
  · exact h _ _ _ _ st mr' r
  · split at h
    · rename_i hu
      rw [Bool.and_eq_true] at hu
      obtain ⟨m1, s1⟩ := mr.settle st mr' hu.2
      exact h _ _ _ _ s1 m1 (r.und hu.1)
    · exact h _ _ _ _ st mr' r
end
/-! ### a lambda is made: only its table changes -/
section
variable {K : PySem.W.Frag} {φ : List Addr} {F H H1 : Hp} {m : Mem}
theorem CellR.ext {a : Addr} {c : Cell} (e : LamX.ExtN H H1) (h : CellR K φ F H a c) : CellR K φ F H1 a c := by
  cases c with
  | lst ds => obtain ⟨xs, q, x⟩ := h; exact ⟨xs, e _ _ q (NTC.tbl), x⟩
  | dct ds => obtain ⟨xs, q, x⟩ := h; exact ⟨xs, e _ _ q (NTC.tbl), x⟩
  | nst ds => obtain ⟨l, b, n, xs, q, x⟩ := h; exact ⟨l, b, n, xs, e _ _ q (NTC.tbl), x⟩
  | ins C fs => obtain ⟨dx, xs, q, x⟩ := h; exact ⟨dx, xs, e _ _ q (NTC.tbl), x⟩
theorem MR.lam (mr : MR K φ F H m) (e : LamX.ExtN H H1) (t : LamX.Tabs WW.T H1) : MR K φ F H1 m ∧ Stp φ F H φ F H1 := by
  refine ⟨⟨fun a o h => e a o (mr.ext a o h) fun ps q => mr.ntb a ps (by rw [h, q]), mr.len, mr.nod, fun n a c h1 h2 => ?_, t, mr.ntb⟩, ⟨Pre.refl, Sub.refl, fun a o h _ ht => e a o h ht, fun a o h => .inl h, fun a h o ho => ?_, fun a h => .inl h⟩⟩
  · obtain ⟨q, x⟩ := mr.cell n a c h1 h2
    exact ⟨q, x.ext e⟩
  · by_cases ht : ∃ ps, o = .tbl ps
    · exact ht
    · exact h o (e a o ho fun ps q => ht ⟨ps, q⟩)
end
/-- the lambda's reading, told to `_law_kind` -/
theorem kin_tell {K : PySem.W.Frag} {W : WX} {σ : L2.St} {φ : List Addr} {F H : Hp} {m : Mem} {r : Res D} {Q : VK} (mr : MR K φ F H m) (h : Pst K W (RD K) σ φ F H (kinD m.length r) Q) :
    Pst K (fun cls d _ H' => ∃ x ∈ kinWords, cls = .ref (He.ga K x) ∧ d = none ∧ LamX.Tabs WW.T H' ∧ ∀ H2 : Hp, LamX.ExtN H' H2 → LamX.Tabs WW.T H2 → Q (.str x) H2) (RD K) σ φ F H r (fun _ H' => Q (.str "") H') := by
  cases r with
  | stuck => exact h
  | ok d m' => exact fun φ' F' H' v st mr' _ => Pst.settle mr h st mr' (.str "")
  | exc x m' =>
    obtain ⟨cl, fs⟩ := x
    cases fs with
    | cons _ _ => exact h.elim
    | nil =>
      have h : Pst K W (RD K) σ φ F H (if cl ∈ kinWords then settle m.length (.str cl) m' else .stuck) Q := h
      split at h
      · rename_i hx
        exact fun φ' F' H' c dd st mr' ex => ⟨cl, hx, ex.cls, ex.no rfl, mr'.tab, fun H2 e2 t2 => by
          obtain ⟨m2, s2⟩ := mr'.lam e2 t2
          exact Pst.settle mr h (st.trans s2) m2 (.str cl)⟩
      · exact h.elim
end Mi

set_option Elab.async false
set_option linter.all false
set_option maxRecDepth 100000
set_option maxHeartbeats 4000000
/-! MiN: dicts whose keys are tuples; update. -/
namespace L2
open PySem PySem.Spec PyProof.Rows
abbrev sob (w : World) : Obj := { cls := .type "set", dict := none, data := .set #[] 0 (.fresh 0 0 (!w.params.followText "set-order")) }
section
variable {P : Program} {w : World} {A : Around} {E : Value → Shared → Prop} {s : Shared}
set_option maxHeartbeats 8000000 in
/-- set(xs), xs a list of ints -/
theorem set_ofList {l : Addr} {items : Array Value} (ns : List Int) {Q : Value → Shared → Prop} (hh : A.handled = none) (hl : s.heap.IsList l items) (hit : IntsAre items.toList ns) (hb : ns.length + 1 < scanBound)
    (h : ∀ (h' : Heap) (tk c : Nat), SetR w h' s.heap.objs.size (fun j => decide (j ∈ ns)) c → c ≤ ns.length → (∀ b o, s.heap.get? b = some o → h'.get? b = some o) → Q (.ref s.heap.objs.size) { s with heap := h', toks := tk }) :
    wpAny (model P w) A (call (.type "set") [.ref l]) Q E s := by
  have len : items.size = ns.length := by simpa using IntsAre.length hit
  obtain ⟨ca, ta, ma⟩ := F.called_set.mro
  have mb := F.called_set.made
  have mc := F.called_set.sub
  have md := F.called_set.notType
  have me := F.called_set.canCreate
  have mf := F.typeCall_set_1 (.ref l)
  refine wpAny_call (codeAny_of_tree (show wpAny _ _ (callAny (.type "set") _) _ _ _ from wpAny_pure ⟨Code.quiet_builtin _ (by decide +kernel), codeAny_builtin F.entry_type_call ?_⟩))
  rw [Around.under_plain (weight_type_call_type "set" [.ref l] []) rfl]
  repeat (any_goals (first | assumption | wp_step))
  have szl : l < s.heap.objs.size := let ⟨_, e, _⟩ := hl; Heap.lt_size e
  have hl1 : (s.heap.push (sob w)).IsList l items := hl.push _
  have hS : (s.heap.push (sob w)).get? s.heap.objs.size = some (sob w) := Heap.get?_push_size _ rfl
  clear ma mb md me mf
  refine codeAny_mono (code_set_led1 (.ref l) (E := E) (Q₁ := fun obj s1 => obj = .ref s.heap.objs.size ∧ s1 = { s with heap := s.heap.push (sob w) }) ⟨rfl, rfl⟩) fun r s1 hr => ?_
  match r, hr with
  | .error e, hr => exact hr
  | .ok .next, hr => exact hr.elim
  | .ok .brk, hr => exact hr.elim
  | .ok .cont, hr => exact hr.elim
  | .ok (.ret obj), hr =>
  obtain ⟨rfl, rfl⟩ := hr
  have hz1 : (s.heap.push (sob w)).objs.size = s.heap.objs.size + 1 := Heap.size_push ..
  have hk1 : ∀ b o, s.heap.get? b = some o → (s.heap.push (sob w)).get? b = some o := fun b o e => Heap.get?_push_of_some _ e
  generalize s.heap.push (sob w) = hp1 at hl1 hS hz1 hk1 ⊢
  have hT : Shared.TypeIs { s with heap := hp1 } (.ref s.heap.objs.size) "set" := ⟨_, hS, rfl⟩
  have mg := F.called_set.init.lookup
  have mh := F.called_set.init.bind (.ref s.heap.objs.size)
  repeat (any_goals (first | assumption | wp_step))
  refine codeAny_mono (codeAny_call_builtin (R := wants (fun r s2 => r = .none ∧ ∃ h' tk c, s2 = { s with heap := h', toks := tk } ∧ SetR w h' s.heap.objs.size (fun j => decide (j ∈ ns)) c ∧ c ≤ ns.length ∧ ∀ b o, s.heap.get? b = some o → h'.get? b = some o) E)
    F.called_set.init.plain F.entry_set_init (check_set_init_1 hT ?_)) fun r2 s2 hr2 => ?_
  · obtain ⟨⟨cls, dct, dat, slo⟩, hol, hcl, nl, hdl⟩ := hl
    simp only at hcl hdl
    subst hcl hdl
    have hol1 : hp1.get? l = some { cls := .type "list", dict := dct, data := .seq items nl, slots := slo } := hk1 _ _ hol
    have k1 := F.sub_list_set
    have k2 := F.sub_list_frozenset
    have k3 : (Value.type "list" == Value.type "dict") = false := by decide
    clear hol mg mh mc
    unfold Builtin.«set.__init__» noKeywords Builtin.Frozenset.updateFrom
    generalize hPI : pyIter = PI
    wp_walk
    subst hPI
    refine wpAny_pyIter_list hl1 (wpAny_bind (wpAny_runValue ?_))
    have ne1 : l ≠ hp1.objs.size := by rw [hz1]; exact Nat.ne_of_lt (Nat.lt_succ_of_lt szl)
    have ne2 : s.heap.objs.size ∉ [hp1.objs.size, l] := by
      rw [hz1]
      intro z
      rcases List.mem_cons.mp z with z | z
      · exact Nat.ne_of_lt (Nat.lt_succ_self _) z
      · exact Nat.ne_of_gt szl (List.mem_singleton.mp z)
    refine set_update_ints ((Walks.list (by simp [hh]) _ l ne1 items).toS) s.heap.objs.size ne2 ns len hb (fun i v hv => ?_) (items.size - 0) 0 _ (by omega) (Nat.zero_le _) ⟨⟨_, Heap.get?_push_size _ rfl, rfl, rfl⟩, hl1.push _⟩ ⟨0, Nat.le_refl 0, setR_new_at (Heap.get?_push_of_some _ hS)⟩ fun s3 c3 hm hc3 hS3 => ?_
    · have hi : i < ns.length := by rw [← len]; exact (Array.getElem?_eq_some_iff.mp hv).1
      obtain ⟨t, e⟩ := IntsAre.int_at hit i v (by rw [Array.getElem?_toList]; exact hv)
      exact ⟨ns[i], t, List.getElem?_eq_getElem hi, by rw [e, List.getD_eq_getElem?_getD, List.getElem?_eq_getElem hi] <;> rfl⟩
    · have e1 : s3 = { s with heap := s3.heap, toks := s3.toks } := by
        have a1 := hm.gens
        have a2 := hm.drawn
        have a3 := hm.os
        cases s3
        simp only at a1 a2 a3
        subst a1 a2 a3
        rfl
      rw [len] at hc3
      refine wpAny_pure (show wpAny _ _ (ret Value.none) _ _ _ from wpAny_pure ⟨rfl, s3.heap, s3.toks, c3, e1, hS3, hc3, fun b o e => hm.heap b o ?_ (Heap.get?_push_of_some _ (hk1 _ _ e))⟩)
      have hb0 : b < s.heap.objs.size := Heap.lt_size e
      rw [hz1]
      intro z
      rcases List.mem_cons.mp z with z | z
      · exact Nat.ne_of_lt hb0 z
      · exact Nat.ne_of_lt (Nat.lt_succ_of_lt hb0) (List.mem_singleton.mp z)
  · match r2, hr2 with
    | .error e, hr2 => exact hr2
    | .ok .next, hr2 => exact hr2.elim
    | .ok .brk, hr2 => exact hr2.elim
    | .ok .cont, hr2 => exact hr2.elim
    | .ok (.ret v), hr2 =>
    obtain ⟨rfl, h3, t3, c3, rfl, q1, q2, q3⟩ := hr2
    repeat (any_goals (first | assumption | wp_step))
    exact h _ _ _ q1 q2 q3
end
section
variable {X : Cx}
def tSrl (K : PySem.W.Frag) (ta : TE) : TE := fun σ H Q => ta σ H fun x H1 => ∃ (l : Addr) (ns : List Int), x = .ref l ∧ SqL K H1 l (ns.map V.int) ∧ ns.length ≤ 60 ∧
  ∀ (out : List Int) (p : Addr), out.Pairwise (· < ·) → (∀ k : Int, k ∈ out ↔ k ∈ ns) → H1 p = none → Q (.ref p) (upd H1 p (.lst (out.map V.int)))
theorem pe_srl {a : Expr} {ta : TE} {p p2 q pos : Pos} (hc : X.calm = true) (hg : Gl X "sorted") (hm : X.mg "sorted" = none) (hg2 : Gl X "set") (hm2 : X.mg "set" = none) (ha : PE X a ta)
    (na : starEach [a] X.env = (false, eval a X.env) :: starEach [] X.env) : PE X (.Call (.Name "sorted" p) [.Call (.Name "set" p2) [a] [] q] [] pos) (tSrl X.K ta) := by
  refine ⟨fun pins s σ H Q I h => ?_⟩
  refine Call_ (ld_blt I hg hm PyProof.Rows.boot_sorted ?_)
  refine PyProof.Rows.callWith_builtin1 (PyProof.Rows.args_cons ?_ rfl) rfl rfl
  refine Call_ (ld_blt I hg2 hm2 PyProof.Rows.boot_set ?_)
  refine PyProof.Rows.callWith_type1 (PyProof.Rows.args_cons (thn (ha.run pins s σ H _ I h) fun v s1 ⟨x, H1, I1, r1, q1⟩ => PyProof.Rows.args_nil ?_) na) na rfl
  obtain ⟨l, ns, rfl, hq, hl, q1⟩ := q1
  cases r1
  obtain ⟨its, rv, pt, hz⟩ := I1.list hq
  have hi : IntsAre its.toArray.toList ns := ints_of_vals rv
  refine set_ofList ns (I1.ok.hd hc) pt.isList hi (by unfold scanBound; omega) fun h' tk c R1 hcn k => PyProof.Rows.args_nil ?_
  have I2 : Inv X pins σ H1 { s1 with heap := h', toks := tk } := I1.kept (t' := tk) k
  exact srt_set (s := { s1 with heap := h', toks := tk }) hc I2 R1 (by omega) fun out p hs hm hn => q1 out p hs (fun j => by rw [hm j, decide_eq_true_eq]) hn
end
end L2
namespace Mi
open PySem L2
variable [WW]
/-! ### keys -/
mutual
theorem nkD_eq : ∀ (d : D) (k : NestedKey), nkD d = some k → d = dNK k
  | .non, k, h => by simp [nkD] at h; subst h; rfl
  | .int i, k, h => by simp [nkD] at h; subst h; rfl
  | .str i, k, h => by simp [nkD] at h; subst h; rfl
  | .tup xs, k, h => by
    simp only [nkD] at h
    obtain ⟨ks, e, rfl⟩ := Option.map_eq_some_iff.mp h
    rw [dNK, nksD_eq xs ks e]
  | .bl _, k, h => by simp [nkD] at h
  | .lst _, k, h => by simp [nkD] at h
  | .dic _, k, h => by simp [nkD] at h
  | .ptr _, k, h => by simp [nkD] at h
  | .inp _, k, h => by simp [nkD] at h
  | .gd _, k, h => by simp [nkD] at h
theorem nksD_eq : ∀ (ds : List D) (ks : List NestedKey), nksD ds = some ks → ds = dNKs ks
  | [], ks, h => by simp [nksD] at h; subst h; rfl
  | d :: ds, ks, h => by
    simp only [nksD] at h
    cases e1 : nkD d with
    | none => rw [e1] at h; cases h
    | some k =>
      cases e2 : nksD ds with
      | none => rw [e1, e2] at h; cases h
      | some ks' =>
        rw [e1, e2] at h
        cases h
        rw [dNKs, nkD_eq d k e1, nksD_eq ds ks' e2]
end
theorem tkD_eq {d : D} {k : NestedKey} (h : tkD d = some k) : d = dNK k ∧ k.depth ≤ 8 ∧ ∃ ks, k = .tup ks := by
  unfold tkD at h
  split at h
  · rename_i xs
    split at h
    · rename_i ks e
      split at h
      · rename_i hd
        cases h
        exact ⟨by rw [dNK, nksD_eq xs ks e], hd, ks, rfl⟩
      · cases h
    · cases h
  · cases h
theorem tk_ref {K : PySem.W.Frag} {φ : List Addr} {F : Hp} {d : D} {k : NestedKey} {v : V} (h : tkD d = some k) (r : Rep K φ F d v) : ∃ b, v = .ref b ∧ Rep K φ F (dNK k) (.ref b) ∧ k.depth ≤ 8 := by
  obtain ⟨rfl, hd, ks, rfl⟩ := tkD_eq h
  rw [dNK] at r ⊢
  cases r with
  | @tup a _ _ h1 h2 => exact ⟨a, rfl, .tup h1 h2, hd⟩
section
variable {K : PySem.W.Frag} {φ : List Addr} {F H : Hp} {P : Program} {w : World} {h : Heap}
mutual
theorem nk_is (ok : HOk P w H h) (sb : Sub F H) : ∀ (k : NestedKey) (v : V) (u : Value), Rep K φ F (dNK k) v → RelV v u → NestedIs h k u
  | .none, _, u, r, q => by
    cases r
    cases (show u = Value.none from q)
    exact .none
  | .num i, _, u, r, q => by
    cases r
    obtain ⟨t, e⟩ := (show ∃ t, u = Value.int i t from q)
    subst e
    exact .int i t
  | .text x, _, u, r, q => by
    cases r
    obtain ⟨t, e⟩ := (show ∃ t, u = Value.str x t from q)
    subst e
    exact .text x t
  | .tup ks, _, u, r, q => by
    rw [dNK] at r
    cases r with
    | tup h1 h2 =>
      cases (show u = Value.ref _ from q)
      obtain ⟨z, its, rv, o, ho, hc, n, hd⟩ := ok _ _ (sb _ _ h1)
      exact .tup ho hc hd (nk_all ok sb ks _ _ h2 rv)
theorem nk_all (ok : HOk P w H h) (sb : Sub F H) : ∀ (ks : List NestedKey) (vs : List V) (us : List Value), RepL K φ F (dNKs ks) vs → Vals vs us → NestedAll h ks us
  | [], _, us, r, q => by
    rw [dNKs] at r
    cases r
    cases q
    exact .nil
  | k :: ks, _, us, r, q => by
    rw [dNKs] at r
    cases r with
    | cons r1 r2 =>
      cases q with
      | cons q1 q2 => exact .cons (nk_is ok sb k _ _ r1 q1) (nk_all ok sb ks _ _ r2 q2)
end
theorem rn_keys : ∀ {ds : List (NestedKey × D)} {xs : List (NestedKey × Addr × V)}, RepN K φ F ds xs → xs.map (·.1) = ds.map (·.1)
  | _, _, .nil => rfl
  | _, _, .cons _ _ _ r => by rw [List.map_cons, List.map_cons, rn_keys r]
theorem nv_keys : ∀ {xs : List (NestedKey × Addr × V)} {ys : List (NestedKey × Addr × Value)}, NVs xs ys → ys.map (·.1) = xs.map (·.1)
  | _, _, .nil => rfl
  | _, _, .cons h r => by rw [List.map_cons, List.map_cons, nv_keys r, h.1]
theorem rn_is (ok : HOk P w H h) (sb : Sub F H) : ∀ {ds : List (NestedKey × D)} {xs : List (NestedKey × Addr × V)} {ys : List (NestedKey × Addr × Value)}, RepN K φ F ds xs → NVs xs ys → ∀ x ∈ ys, NestedIs h x.1 (.ref x.2.1) ∧ x.1.depth ≤ 8
  | _, _, _, .nil, .nil => fun x hx => by cases hx
  | _, _, _, .cons h1 h2 h3 r, .cons (b := b) q qs => fun x hx => by
    rcases List.mem_cons.mp hx with e | e
    · subst e
      obtain ⟨e1, e2, _⟩ := q
      simp only at e1 e2
      rw [← e1, ← e2]
      exact ⟨nk_is ok sb _ _ _ h1 rfl, h2⟩
    · exact rn_is ok sb r qs x e
theorem any_keys {α β : Type} {k : NestedKey} : ∀ {l : List (NestedKey × α)} {l' : List (NestedKey × β)}, l.map (·.1) = l'.map (·.1) → (l.any fun p => decide (p.1 = k)) = l'.any fun p => decide (p.1 = k)
  | [], [], _ => rfl
  | [], _ :: _, h => by simp at h
  | _ :: _, [], h => by simp at h
  | p :: l, q :: l', h => by
    rw [List.map_cons, List.map_cons] at h
    injection h with h1 h2
    rw [List.any_cons, List.any_cons, h1, any_keys h2]
theorem at_has {ds : List (NestedKey × D)} {xs : List (NestedKey × Addr × V)} {ys : List (NestedKey × Addr × Value)} (r : RepN K φ F ds xs) (q : NVs xs ys) (k : NestedKey) : (atKey ys k).isSome = hasN ds k := by
  rw [← any_pairsH]
  unfold hasN
  refine any_keys ?_
  unfold pairsH
  rw [List.map_map, ← rn_keys r, ← nv_keys q]
  rfl
def putV (k : NestedKey) (v : V) (x : NestedKey × Addr × V) : NestedKey × Addr × V := if x.1 = k then (x.1, x.2.1, v) else x
theorem rn_map {k : NestedKey} {d : D} {v : V} (rd : Rep K φ F d v) : ∀ {ds : List (NestedKey × D)} {xs : List (NestedKey × Addr × V)}, RepN K φ F ds xs → RepN K φ F (ds.map fun p => if p.1 = k then (p.1, d) else p) (xs.map (putV k v))
  | _, _, .nil => .nil
  | _, _, .cons (k := j) h1 h2 h3 r => by
    rw [List.map_cons, List.map_cons]
    by_cases e : j = k
    · have e1 : ∀ (b : Addr) (u : V), putV k v (j, b, u) = (j, b, v) := fun _ _ => if_pos e
      rw [e1]
      simp only [e, if_true]
      subst e
      exact .cons h1 h2 rd (rn_map rd r)
    · have e1 : ∀ (b : Addr) (u : V), putV k v (j, b, u) = (j, b, u) := fun _ _ => if_neg e
      rw [e1]
      simp only [e, if_false]
      exact .cons h1 h2 h3 (rn_map rd r)
theorem nv_map {k : NestedKey} {v : V} {u : Value} (rv : RelV v u) : ∀ {xs : List (NestedKey × Addr × V)} {ys : List (NestedKey × Addr × Value)}, NVs xs ys → NVs (xs.map (putV k v)) (ys.map (putAt k u))
  | _, _, .nil => .nil
  | _, _, .cons (a := x) (b := y) h r => by
    rw [List.map_cons, List.map_cons]
    refine .cons ?_ (nv_map rv r)
    unfold putV putAt
    by_cases e : x.1 = k
    · rw [if_pos e, if_pos (h.1.symm.trans e)]
      exact ⟨h.1, h.2.1, rv⟩
    · rw [if_neg e, if_neg fun z => e (h.1.trans z)]
      exact h
theorem rn_snoc {k : NestedKey} {b : Addr} {d : D} {v : V} (h1 : Rep K φ F (dNK k) (.ref b)) (h2 : k.depth ≤ 8) (h3 : Rep K φ F d v) : ∀ {ds : List (NestedKey × D)} {xs : List (NestedKey × Addr × V)}, RepN K φ F ds xs → RepN K φ F (ds ++ [(k, d)]) (xs ++ [(k, b, v)])
  | _, _, .nil => .cons h1 h2 h3 .nil
  | _, _, .cons a1 a2 a3 r => .cons a1 a2 a3 (rn_snoc h1 h2 h3 r)
theorem nv_snoc {k : NestedKey} {b : Addr} {v : V} {u : Value} (rv : RelV v u) : ∀ {xs : List (NestedKey × Addr × V)} {ys : List (NestedKey × Addr × Value)}, NVs xs ys → NVs (xs ++ [(k, b, v)]) (ys ++ [(k, b, u)])
  | _, _, .nil => .cons ⟨rfl, rfl, rv⟩ .nil
  | _, _, .cons h r => .cons h (nv_snoc rv r)
/-- stored -/
theorem rn_put {k : NestedKey} {b : Addr} {d : D} {v : V} {u : Value} {ds : List (NestedKey × D)} {xs : List (NestedKey × Addr × V)} {ys : List (NestedKey × Addr × Value)} (h1 : Rep K φ F (dNK k) (.ref b)) (h2 : k.depth ≤ 8) (h3 : Rep K φ F d v) (rv : RelV v u)
    (r : RepN K φ F ds xs) (q : NVs xs ys) : ∃ xs', RepN K φ F (putN ds k d) xs' ∧ NVs xs' (storedH ys k b u) := by
  have e := at_has r q k
  unfold putN storedH
  rw [e]
  by_cases hh : hasN ds k = true
  · rw [if_pos hh, if_pos hh]
    exact ⟨_, rn_map h3 r, nv_map rv q⟩
  · rw [if_neg hh, if_neg hh]
    exact ⟨_, rn_snoc h1 h2 h3 r, nv_snoc rv q⟩
end
theorem put_keys {k : NestedKey} {d : D} {ds : List (NestedKey × D)} (hn : (ds.map (·.1)).Nodup) : ((putN ds k d).map (·.1)).Nodup := by
  unfold putN
  split
  · have : (ds.map fun p => if p.1 = k then (p.1, d) else p).map (·.1) = ds.map (·.1) := by
      rw [List.map_map]
      refine List.map_congr_left fun p _ => ?_
      simp only [Function.comp]
      split <;> rfl
    rw [this]
    exact hn
  · rename_i h
    rw [List.map_append, List.nodup_append]
    refine ⟨hn, by simp, fun a ha b hb e => h ?_⟩
    simp only [List.map_cons, List.map_nil, List.mem_singleton] at hb
    subst hb e
    obtain ⟨p, hp, e⟩ := List.mem_map.mp ha
    exact List.any_eq_true.mpr ⟨p, hp, by simpa using e⟩
theorem put_len {k : NestedKey} {d : D} {ds : List (NestedKey × D)} : (putN ds k d).length ≤ ds.length + 1 := by
  unfold putN
  split <;> simp
theorem dict_pairsX {prog : Program} {w : World} {K : Type} [DecidableEq K] {knd : HeapKind prog w K} {A : Around} {E : Value → Shared → Prop} {s : Shared} {env : Env} {keys : List (Option Expr)} {values : List Expr} {pos : Pos} {pairs : List (Sem Value × Sem Value)} {Q : Value → Shared → Prop} (hu : knd.room A)
    (hshape : (evalEachOpt keys env).zip ((evalEach values env).map fun v => do let x ← v; standAt pos; pure x) = pairs.map fun p => (some p.1, p.2)) (h0 : pairs ≠ []) (hlen : pairs.length ≤ 15)
    (h : wpAny (model prog w) A (evalPairs pairs) (fun vs s₁ => ∃ ps, CarriesH knd s₁.heap vs ps ∧ s₁.heap.DictOfH knd s.heap.objs.size [] ∧
      ∀ h' tk, h'.DictOfH knd s.heap.objs.size (storedAllH [] ps) → Heap.SameBut s.heap.objs.size s₁.heap h' → Q (.ref s.heap.objs.size) { s₁ with heap := h', toks := tk }) E
      { s with heap := s.heap.push { cls := .type "dict", data := .dict #[] } }) :
    wpAny (model prog w) A (eval (.Dict keys values pos) env) Q E s := by
  rw [arm_eval_Dict, hshape, dictDisplay_pairs pairs h0 (by omega)]
  exact wpAny_bind (wpAny_standAt (wpAny_bind (wpAny_subDictH (knd := knd) (Q := fun d s' => wpAny (model prog w) A (pure (Value.ref d)) Q E s') hu hlen
    (wpAny_mono h (fun vs s₁ h₁ => by obtain ⟨ps, hc, hm, hq⟩ := h₁; exact ⟨ps, hc, hm, fun h' tk a b => wpAny_pure (hq h' tk a b)⟩) fun _ _ e => e))))
section
variable {X : Cx} {W : WX} {G : Gx} {k : Nat} {af : Bool} {pins : List (Addr × Obj)} {σ : L2.St} {H : Hp} {s : Shared}
theorem nst_ok {P : Program} {w : World} {H : Hp} {h : Heap} {a : Addr} {xs : List (NestedKey × Addr × V)} {ys : List (NestedKey × Addr × Value)} (hw : WW.w = w) (q : NVs xs ys) (x : h.DictOfH (nestedKind P w) a ys) : ObjOk P w H h a (NstO a xs) := by
  obtain ⟨o, es, ep, h1, h2, h3, h4, h5, h6⟩ := x
  refine ⟨⟨ys, q, o, es, ep, h1, h2, h3, ?_⟩, ⟨o, h1⟩, ?_⟩
  · rw [h4]
    subst hw
    rfl
  · rintro h1 h2 ⟨ys', q', o', es', ep', e1, e2⟩ hk
    exact ⟨ys', q', o', es', ep', hk _ e1, e2⟩
/-- the dict that stands at a -/
theorem nst_of (I : Inv X pins σ H s) (hw : WW.w = X.w) {φ : List Addr} {F : Hp} (sb : Sub F H) {kvs : List (NestedKey × D)} {xs : List (NestedKey × Addr × V)} {a : Addr} (ha : H a = some (NstO a xs)) (hn : (kvs.map (·.1)).Nodup) (r : RepN X.K φ F kvs xs) :
    ∃ ys, NVs xs ys ∧ s.heap.DictOfH (nestedKind X.prog X.w) a ys := by
  obtain ⟨⟨ys, nv, o, es, ep, h1, h2, h3, h4⟩, _, _⟩ := I.hok a _ ha
  refine ⟨ys, nv, o, es, ep, h1, h2, h3, ?_, rn_is I.hok sb r nv, ?_⟩
  · rw [h4]
    have : WW.w = X.w := hw
    unfold nstEnt
    rw [this]
    rfl
  · rw [nv_keys nv, rn_keys r]
    exact hn
theorem getN_rep {φ : List Addr} {F : Hp} {K : PySem.W.Frag} {m : Mem} {d : D} {kvs : List (NestedKey × D)} {v : V} (mr : MR K φ F H m) (h : getN m d = some kvs) (r : Rep K φ F d v) :
    ∃ (p : Nat) (a : Addr), d = .ptr p ∧ v = .ref a ∧ φ[p]? = some a ∧ m[p]? = some (.nst kvs) ∧ kvs.length ≤ sizeLine ∧ (a == sysModules) = false ∧ (kvs.map (·.1)).Nodup ∧ ∃ xs, H a = some (NstO a xs) ∧ RepN K φ F kvs xs := by
  unfold getN at h
  split at h
  · rename_i p
    split at h
    · rename_i e
      cases h
      cases r with
      | @ptr a _ hn =>
        obtain ⟨_, h1, h2, h3, xs, h4, h5⟩ := mr.cell p a _ hn e
        exact ⟨p, a, rfl, rfl, hn, e, h1, h2, h3, xs, h4, h5⟩
    · cases h
  · cases h
theorem tok (I : Inv X pins σ H s) (t : Nat) : Inv X pins σ H { s with toks := t } := I.kept (t' := t) fun _ _ e => e
/-- k in d -/
theorem op_inN (hw : WW.w = X.w) (hu : X.A.units + 65 < cLine) : OpR X (compareOp .In) (R2of X.K W (x2D .inN)) := by
  intro pins s σ H v w vv ww Q I rv rw ⟨σ', φ, F, m, x, y, mr, rx, ry, h⟩
  unfold x2D at h
  simp only at h
  split at h
  · rename_i kvs kk e1 e2
    obtain ⟨p, a, rfl, rfl, hp, hm, hl, hs, hn, xs, ha, rn⟩ := getN_rep mr e1 ry
    obtain ⟨b, rfl, rk, hd⟩ := tk_ref e2 rx
    cases rv
    cases rw
    obtain ⟨ys, nv, dd⟩ := nst_of I hw mr.ext ha hn rn
    refine wpAny_in_heap (knd := nestedKind X.prog X.w) (by show X.A.units + 1 + 8 < cLine; omega) ⟨nk_is I.hok mr.ext _ _ _ rk rfl, hd⟩ hs dd ?_
    rw [at_has rn nv]
    exact ⟨.bl _, H, tok I _, rfl, h.okQ mr (.bl _)⟩
  · exact h.elim
theorem op_ninN (hw : WW.w = X.w) (hu : X.A.units + 65 < cLine) : OpR X (compareOp .NotIn) (R2of X.K W (x2D .ninN)) := by
  intro pins s σ H v w vv ww Q I rv rw ⟨σ', φ, F, m, x, y, mr, rx, ry, h⟩
  unfold x2D at h
  simp only at h
  split at h
  · rename_i kvs kk e1 e2
    obtain ⟨p, a, rfl, rfl, hp, hm, hl, hs, hn, xs, ha, rn⟩ := getN_rep mr e1 ry
    obtain ⟨b, rfl, rk, hd⟩ := tk_ref e2 rx
    cases rv
    cases rw
    obtain ⟨ys, nv, dd⟩ := nst_of I hw mr.ext ha hn rn
    refine PyProof.Rows.wpAny_notIn_heap (knd := nestedKind X.prog X.w) (by show X.A.units + 1 + 8 < cLine; omega) ⟨nk_is I.hok mr.ext _ _ _ rk rfl, hd⟩ hs dd ?_
    rw [at_has rn nv]
    exact ⟨.bl _, H, tok I _, rfl, h.okQ mr (.bl _)⟩
  · exact h.elim
/-- d[k] = v -/
def StN (K : PySem.W.Frag) : TSet := fun o i v H Q => ∃ φ F m x y d m', MR K φ F H m ∧ Rep K φ F x o ∧ Rep K φ F y i ∧ Rep K φ F d v ∧ setItemN x y d m = some m' ∧ ∀ H', Stp φ F H φ F H' → MR K φ F H' m' → Q H'
theorem st_nst (hw : WW.w = X.w) (hu : X.A.units + 65 < cLine) : PSet X (StN X.K) := by
  intro pins s σ H o i v ov iv u Q I ro ri rv ⟨φ, F, m, x, y, d, m', mr, rx, ry, rd, hs, q⟩
  unfold setItemN at hs
  cases x with
  | ptr p =>
    simp only at hs
    split at hs
    · rename_i kvs kk e1 e2
      split at hs
      · rename_i hl
        cases hs
        obtain ⟨p', a, e0, rfl, hp, hm, hl', hb, hn, xs, ha, rn⟩ := getN_rep (kvs := kvs) mr (by simp only [getN, e1]) rx
        cases e0
        obtain ⟨b, rfl, rk, hd⟩ := tk_ref e2 ry
        cases ro
        cases ri
        obtain ⟨ys, nv, dd⟩ := nst_of I hw mr.ext ha hn rn
        have hys : ys.length ≤ sizeLine := by
          have e := congrArg List.length (nv_keys nv)
          have e2 := congrArg List.length (rn_keys rn)
          rw [List.length_map, List.length_map] at e e2
          rw [e, e2]
          exact hl'
        refine wpAny_setItem_heap (knd := nestedKind X.prog X.w) (hsz := hys) (by show X.A.units + 1 + 8 < cLine; omega) ⟨nk_is I.hok mr.ext _ _ _ rk rfl, hd⟩ dd fun h' dd' hs' => ?_
        obtain ⟨xs', rn', nv'⟩ := rn_put rk hd rd rv rn nv
        have hc : CellR X.K φ F (upd H a (NstO a xs')) a (.nst (putN kvs kk d)) := ⟨by
          have := put_len (k := kk) (d := d) (ds := kvs)
          have := line_lt hl
          omega, hb, put_keys hn, xs', upd_same, rn'⟩
        obtain ⟨mr2, st2⟩ := mr.write (c := .nst (putN kvs kk d)) hp hc
        refine ⟨_, d_write I (by rw [ha]; exact True.intro) hs' ?_ (nst_ok hw nv' dd'), q _ st2 mr2⟩
        obtain ⟨o, _, _, ho, _⟩ := dd'
        exact ⟨o, ho⟩
      · cases hs
    · cases hs
  | _ => cases hs
/-- {} -/
theorem nst_new (hw : WW.w = X.w) {Q : VK} {φ : List Addr} {F : Hp} {m : Mem} {p : Addr} (mr : MR X.K φ F H m) (hp : H p = none) (hb : (p == sysModules) = false) (h : Pst X.K W (RD X.K) σ φ F H (.ok (.ptr m.length) (m ++ [.nst []])) Q) : Q (.ref p) (upd H p (NstO p [])) := by
  obtain ⟨mr2, st2⟩ := mr.push (o := NstO p []) (c := .nst []) hp ⟨Nat.zero_le _, hb, List.nodup_nil, [], upd_same, .nil⟩
  refine h _ _ _ _ st2 mr2 (.ptr ?_)
  rw [← mr.len, List.getElem?_append_right (Nat.le_refl _)]
  simp
theorem me_newN (c : CK X W G k af) {pos : Pos} : PE X (.Dict [] [] pos) (Tm X.K W (RD X.K) (evalE G .newN)) := by
  refine ⟨fun pins s σ H Q I ⟨φ, F, en, m, mr, er, q⟩ => ?_⟩
  refine wpAny_Dict_empty ⟨.ref s.heap.objs.size, _, I.laid (a := s.heap.objs.size) (o := NstO s.heap.objs.size []) (t' := s.toks) (fun _ _ q => Heap.get?_push_of_some _ q) (Nat.le_refl _) (nst_ok c.g.ww .nil (Heap.DictOfH.new s.heap)), rfl, ?_⟩
  exact nst_new c.g.ww mr (I.hok.fresh (Nat.le_refl _)) (beq_eq_false_iff_ne.mpr (Ne.symm (Nat.ne_of_lt I.big))) q
/-- {k: v} -/
theorem me_dispN (c : CK X W G k af) {a b : CE} {e e' : Expr} {pos : Pos} (ha : PE X e (Tm X.K W (RD X.K) (evalE G a))) (hb : PE X e' (Tm X.K W (RD X.K) (evalE G b))) : PE X (.Dict [some e] [e'] pos) (Tm X.K W (RD X.K) (evalE G (.x2 .dispN a b))) := by
  refine ⟨fun pins s σ H Q I ⟨φ, F, en, m, mr, er, q⟩ => ?_⟩
  have hu := c.hu
  have hn := I.hok.fresh (Nat.le_refl s.heap.objs.size)
  have I1 := I.laid (a := s.heap.objs.size) (o := .dT []) (h' := s.heap.push { cls := .type "dict", data := .dict #[] }) (t' := s.toks) (fun _ _ q => Heap.get?_push_of_some _ q) (Nat.le_refl _) (dt_empty s.heap I.big)
  have pp : PPs X pos [some e] [e'] [(Tm X.K W (RD X.K) (evalE G a), Tm X.K W (RD X.K) (evalE G b))] := pps_cons ha hb pps_nil
  have q : Pst X.K W (RD X.K) σ φ F H ((evalE G a en m).bind fun x m => (evalE G b en m).bind fun y m => x2D .dispN x y m) Q := q
  have al := Pend.start (o := .dT []) mr hn
  have t0 : tPairs [(Tm X.K W (RD X.K) (evalE G a), Tm X.K W (RD X.K) (evalE G b))] σ (upd H s.heap.objs.size (.dT [])) (fun ps H2 => H2 s.heap.objs.size = some (.dT []) ∧ ∃ (b : Addr) (v : V) (φ2 : List Addr) (F2 : Hp) (m2 : Mem) (kk : NestedKey) (d : D), ps = [(.ref b, v)] ∧
      Pend φ F H s.heap.objs.size (.dT []) φ2 F2 H2 ∧ MR X.K φ2 F2 H2 m2 ∧ Rep X.K φ2 F2 (dNK kk) (.ref b) ∧ kk.depth ≤ 8 ∧ Rep X.K φ2 F2 d v ∧ Pst X.K W (RD X.K) σ φ F H (.ok (.ptr m2.length) (m2 ++ [.nst [(kk, d)]])) Q) := by
    refine ⟨φ, F, en, m, mr.alloc hn, er, ?_⟩
    cases ea : evalE G a en m with
    | stuck => rw [ea] at q; exact q.elim
    | exc z m3 =>
      rw [ea] at q
      intro φ' F' H' c dd st mr' ex
      obtain ⟨m1, s1, sb⟩ := (al.step st).froz mr'
      refine q φ' _ H' c dd s1 m1 ⟨ex.cls, ?_, ex.no⟩
      rcases ex.fs with h | ⟨a, vs, h1, h2, h3, h4⟩
      · exact .inl h
      · exact .inr ⟨a, vs, h1, h2, h3.mono Pre.refl sb, h4⟩
    | ok x m3 =>
      rw [ea, Res.bind_ok] at q
      intro φ' F' H' xv st mr' rx
      refine ⟨φ', F', en, m3, mr', er.mono st.pre st.fx, ?_⟩
      have al1 := al.step st
      cases eb : evalE G b en m3 with
      | stuck => rw [eb] at q; exact q.elim
      | exc z m4 =>
        rw [eb] at q
        intro φ2 F2 H2 c dd st2 mr2 ex
        obtain ⟨m1, s1, sb⟩ := (al1.step st2).froz mr2
        refine q φ2 _ H2 c dd s1 m1 ⟨ex.cls, ?_, ex.no⟩
        rcases ex.fs with h | ⟨a, vs, h1, h2, h3, h4⟩
        · exact .inl h
        · exact .inr ⟨a, vs, h1, h2, h3.mono Pre.refl sb, h4⟩
      | ok y m4 =>
        rw [eb, Res.bind_ok] at q
        intro φ2 F2 H2 yv st2 mr2 ry
        have al2 := al1.step st2
        unfold x2D at q
        simp only at q
        split at q
        · rename_i kk hk
          obtain ⟨bb, rfl, rk, hd⟩ := tk_ref hk rx
          exact ⟨al2.hp, bb, yv, φ2, F2, m4, kk, y, rfl, al2, mr2, rk.mono st2.pre st2.fx, hd, ry, q⟩
        · exact q.elim
  have hall : ([some e] : List (Option Expr)).all (·.isSome) = true := rfl
  refine dict_pairsX (knd := nestedKind X.prog X.w) (pairs := pairTrees [some e] [e'] X.env pos) (by show X.A.units + 8 < cLine; omega) (zip_pairTrees [some e] [e'] X.env pos hall rfl) (by simp [pairTrees]) (by simp [pairTrees])
    (thn (pp.run pins _ σ _ _ I1 t0) fun ws s2 ⟨ps, H2, I2, rel, hp2, b, v, φ2, F2, m2, kk, d, ep, al2, mr2, rk, hd, rdv, q2⟩ => ?_)
  subst ep
  cases rel with
  | @cons x y xs ys hh t =>
    cases t
    obtain ⟨y1, y2⟩ := y
    obtain ⟨hr1, hr2⟩ := hh
    cases (show y1 = Value.ref b from hr1)
    obtain ⟨z, hsm, xs0, r0, o, es, ep, ho, hc, hdt, hes, _⟩ := dt_of I2.hok hp2
    cases r0
    have hk := nk_is I2.hok mr2.ext _ _ _ rk rfl
    refine ⟨[(kk, b, y2)], ⟨rfl, rfl, ⟨hk, hd⟩, True.intro⟩, ⟨o, es, ep, ho, hc, hdt, hes, (fun x hx => by cases hx), List.nodup_nil⟩, fun h' tk dd' hs' => ?_⟩
    have dd2 : h'.DictOfH (nestedKind X.prog X.w) s.heap.objs.size [(kk, b, y2)] := dd'
    have nv : NVs [(kk, b, v)] [(kk, b, y2)] := .cons ⟨rfl, rfl, hr2⟩ .nil
    have he : ∃ q, h'.get? s.heap.objs.size = some q := let ⟨q, _, _, hq, _⟩ := dd2; ⟨q, hq⟩
    refine ⟨.ref s.heap.objs.size, _, d_write (t' := tk) I2 (by rw [hp2]; exact True.intro) hs' he (nst_ok c.g.ww nv dd2), rfl, ?_⟩
    have al3 := al2.put (o' := NstO s.heap.objs.size [(kk, b, v)])
    have mr3 := mr2.other (tc := al2.tc) (o' := NstO s.heap.objs.size [(kk, b, v)]) al2.hp al2.nφ al2.nF
    obtain ⟨m1, s1⟩ := al3.cell (c := .nst [(kk, d)]) mr3 ⟨by show 1 ≤ sizeLine; rw [sizeLine_eq]; omega, hsm, by simp, _, al3.hp, .cons (rk.mono ⟨_, rfl⟩ Sub.refl) hd (rdv.mono ⟨_, rfl⟩ Sub.refl) .nil⟩
    refine q2 _ _ _ _ s1 m1 (.ptr ?_)
    rw [← mr2.len, List.getElem?_append_right (Nat.le_refl _)]
    simp
theorem me_inN (c : CK X W G k af) {a b : CE} {e e' : Expr} {pos : Pos} (ha : PE X e (Tm X.K W (RD X.K) (evalE G a))) (hb : PE X e' (Tm X.K W (RD X.K) (evalE G b))) (hp : plainE e' = true) : PE X (.Compare e [.In] [e'] pos) (Tm X.K W (RD X.K) (evalE G (.x2 .inN a b))) :=
  (pe_cmpR (op_inN c.g.ww c.hu) ha hb (mark_plain hp)).imp fun _ _ _ h => tm_op h
theorem mt_inN (c : CK X W G k af) {a b : CE} {e e' : Expr} {pos : Pos} (ha : PE X e (Tm X.K W (RD X.K) (evalE G a))) (hb : PE X e' (Tm X.K W (RD X.K) (evalE G b))) (hp : plainE e' = true) : PT X (.Compare e [.In] [e'] pos) (TB X W G (.x2 .inN a b)) :=
  (pt_cmpR (op_inN c.g.ww c.hu) ha hb (mark_plain hp)).imp fun _ _ _ h => tm_op (tm_B h)
theorem me_ninN (c : CK X W G k af) {a b : CE} {e e' : Expr} {pos : Pos} (ha : PE X e (Tm X.K W (RD X.K) (evalE G a))) (hb : PE X e' (Tm X.K W (RD X.K) (evalE G b))) (hp : plainE e' = true) : PE X (.Compare e [.NotIn] [e'] pos) (Tm X.K W (RD X.K) (evalE G (.x2 .ninN a b))) :=
  (pe_cmpR (op_ninN c.g.ww c.hu) ha hb (mark_plain hp)).imp fun _ _ _ h => tm_op h
theorem mt_ninN (c : CK X W G k af) {a b : CE} {e e' : Expr} {pos : Pos} (ha : PE X e (Tm X.K W (RD X.K) (evalE G a))) (hb : PE X e' (Tm X.K W (RD X.K) (evalE G b))) (hp : plainE e' = true) : PT X (.Compare e [.NotIn] [e'] pos) (TB X W G (.x2 .ninN a b)) :=
  (pt_cmpR (op_ninN c.g.ww c.hu) ha hb (mark_plain hp)).imp fun _ _ _ h => tm_op (tm_B h)
/-- len(d) -/
def lenR (ds : List D) (m : Mem) : Res D := match ds with
  | [x] => x1D .lenN x m
  | _ => .stuck
theorem cv_lenN (hw : WW.w = X.w) : CallR X (.builtin "len") (CVof X.K W lenR) := by
  intro pins s σ H xs us Q I r ⟨σ', φ, F, m, ds, mr, rl, h⟩
  unfold lenR at h
  split at h
  · rename_i d
    unfold x1D at h
    simp only at h
    split at h
    · rename_i kvs e1
      obtain ⟨v, rfl, rv⟩ := repL1 rl
      obtain ⟨p, a, rfl, rfl, hp, hm, hl, hs, hn, xs, ha, rn⟩ := getN_rep mr e1 rv
      obtain ⟨u, rfl, rx⟩ := vals1 r
      cases rx
      obtain ⟨ys, nv, dd⟩ := nst_of I hw mr.ext ha hn rn
      have e : ys.length = kvs.length := by
        have e := congrArg List.length (nv_keys nv)
        have e2 := congrArg List.length (rn_keys rn)
        rw [List.length_map, List.length_map] at e e2
        omega
      refine call_len_dictH hs dd (by rw [sizeLine_eq] at hl; omega) ?_
      rw [e]
      exact ⟨.int kvs.length, H, tok I _, ⟨_, rfl⟩, h.okQ mr (.int _)⟩
    · exact h.elim
  · exact h.elim
theorem me_lenN (c : CK X W G k af) {a : CE} {e : Expr} {p pos : Pos} (hg : Gl X "len") (ha : PE X e (Tm X.K W (RD X.K) (evalE G a))) (hp : plainE e = true) : PE X (.Call (.Name "len" p) [e] [] pos) (Tm X.K W (RD X.K) (evalE G (.x1 .lenN a))) := by
  have hv := bi_boot .len
  have hm : X.mg "len" = none := c.g.blt _ (by decide +kernel)
  refine (pe_callB (cv_lenN c.g.ww) hg hm hv (ma_cons ha (ma_nil (W := W) (G := G)) hp) (by decide +kernel) (by decide +kernel) (star_plain hp) rfl).imp fun σ H Q h => tm_cb ?_
  obtain ⟨φ, F, en, m, mr, er, q⟩ := h
  refine ⟨φ, F, en, m, mr, er, ?_⟩
  show Pst X.K W (RD X.K) σ φ F H (((evalE G a en m).bind fun x m => (Res.ok [] m).bind fun vs m => .ok (x :: vs) m).bind fun vs m => lenR vs m) Q
  have q : Pst X.K W (RD X.K) σ φ F H ((evalE G a en m).bind fun x m => x1D .lenN x m) Q := q
  cases hc : evalE G a en m with
  | stuck => rw [hc] at q; exact q.elim
  | exc z m3 => rw [hc] at q; exact q
  | ok d m3 => rw [hc] at q; exact q
theorem me_srl (c : CK X W G k af) (hc : X.calm = true) {a : CE} {e : Expr} {p p2 q pos : Pos} (hg : Gl X "sorted") (hg2 : Gl X "set") (ha : PE X e (Tm X.K W (RD X.K) (evalE G a))) (hp : plainE e = true) :
    PE X (.Call (.Name "sorted" p) [.Call (.Name "set" p2) [e] [] q] [] pos) (Tm X.K W (RD X.K) (evalE G (.x1 .srl a))) := by
  have hm : X.mg "sorted" = none := c.g.blt _ (by decide +kernel)
  have hm2 : X.mg "set" = none := c.g.blt _ (by decide +kernel)
  refine (pe_srl hc hg hm hg2 hm2 ha (star_plain hp)).imp fun σ H Q ⟨φ, F, en, m, mr, er, q⟩ => ⟨φ, F, en, m, mr, er, Pst.bind q fun x m1 φ1 F1 H1 v _ s1 mr1 r1 q1 => ?_⟩
  have q1 : Pst X.K W (RD X.K) σ φ1 F1 H1 (srlD x m1) Q := q1
  unfold srlD at q1
  split at q1
  · rename_i xs hx
    split at q1
    · rename_i ns hn
      split at q1
      · rename_i hl
        obtain ⟨b, ws, rfl, h2, r2⟩ := getL_rep mr1 hx r1
        have e := intsD_rep hn r2
        subst e
        refine ⟨_, ns, rfl, SqL.of h2, hl, fun out p hs hm hp => ?_⟩
        rw [sorted_eq hs (sortSet_sorted ns) fun k => by rw [hm, sortSet_mem]]
        exact q1.frozL mr1 hp RepL.ints
      · exact q1.elim
    · exact q1.elim
  · exact q1.elim
end
end Mi

set_option Elab.async false
set_option linter.all false
set_option maxRecDepth 100000
set_option maxHeartbeats 4000000
/-! MiN2: sorted lists of plain values, lists of ranges. -/
namespace Mi
open PySem L2
variable [WW]
section
variable {X : Cx} {W : WX} {G : Gx} {k : Nat} {af : Bool}
def sorR (ds : List D) (m : Mem) : Res D := match ds with
  | [x] => sorD x m
  | _ => .stuck
theorem pys_mem : ∀ {xs : List D} {ps : List PyData}, D.pys? xs = some ps → ps = xs.map pyG ∧ ∀ x ∈ xs, x.py? = some (pyG x)
  | [], ps, h => by simp only [D.pys?] at h; cases h; exact ⟨rfl, fun _ h => by cases h⟩
  | x :: xs, ps, h => by
    simp only [D.pys?] at h
    cases e1 : x.py? with
    | none => rw [e1] at h; simp at h
    | some y =>
      cases e2 : D.pys? xs with
      | none => rw [e1, e2] at h; simp at h
      | some ys =>
        rw [e1, e2] at h
        cases h
        obtain ⟨q1, q2⟩ := pys_mem e2
        have e3 : pyG x = y := by unfold pyG; rw [e1]; rfl
        refine ⟨by rw [List.map_cons, e3, ← q1], fun z hz => ?_⟩
        rcases List.mem_cons.mp hz with e | e
        · rw [e, e3]; exact e1
        · exact q2 z e
theorem sortOk_parts {xs : List D} (h : sortOk xs = true) : (∀ x ∈ xs, x.py? = some (pyG x)) ∧ PySem.W.AllAlike (xs.map pyG) ∧ PySem.W.Sortable (xs.map pyG) ∧ (∀ x ∈ xs, (pyG x).depth ≤ 50) ∧ xs.length ≤ line := by
  unfold sortOk at h
  split at h
  · rename_i ps e
    obtain ⟨rfl, hx⟩ := pys_mem e
    simp only [Bool.and_eq_true, Bool.or_eq_true, decide_eq_true_eq] at h
    obtain ⟨⟨⟨h1, h2⟩, h3⟩, h4⟩ := h
    refine ⟨hx, fun d hd d' hd' => List.all_eq_true.mp (List.all_eq_true.mp h1 d hd) d' hd', ?_, fun x hx => ?_, by simpa using h4⟩
    · rcases h2 with h2 | h2
      · refine .inl fun d hd => ?_
        have := List.all_eq_true.mp h2 d hd
        unfold tupB1 at this
        split at this
        · exact ⟨_, _, rfl⟩
        · cases this
      · refine .inr fun d hd => ?_
        have := List.all_eq_true.mp h2 d hd
        unfold othB1 at this
        split at this
        · cases this
        · cases this
        · rename_i n1 n2
          exact ⟨fun e => n2 e, fun zs e => n1 zs e⟩
    · have := List.all_eq_true.mp h3 _ (List.mem_map.mpr ⟨x, hx, rfl⟩)
      exact of_decide_eq_true this
  · cases h
theorem each_rep {K : PySem.W.Frag} {φ : List Addr} {F : Hp} : ∀ {ds : List D} {vs : List V} {us : List Value}, RepL K φ F ds vs → Vals vs us → PySem.W.EachIs (fun u d => ∃ v, RelV v u ∧ Rep K φ F d v) us ds
  | _, _, _, .nil, .nil => .nil
  | _, _, _, .cons h1 h2, .cons r1 r2 => .cons ⟨_, r1, h1⟩ (each_rep h2 r2)
theorem rep_each {K : PySem.W.Frag} {φ : List Addr} {F : Hp} : ∀ {us : List Value} {ds : List D}, PySem.W.EachIs (fun u d => ∃ v, RelV v u ∧ Rep K φ F d v) us ds → ∃ vs, RepL K φ F ds vs ∧ Vals vs us
  | _, _, .nil => ⟨[], .nil, .nil⟩
  | _, _, .cons ⟨v, r, h⟩ t => by
    obtain ⟨vs, q1, q2⟩ := rep_each t
    exact ⟨v :: vs, .cons h q1, .cons r q2⟩
theorem cv_sor (hu : X.A.units + 65 < cLine) : CallR X (.builtin "sorted") (CVof X.K W sorR) := by
  intro pins s σ H vs us Q I r ⟨σ', φ, F, m, ds, mr, rd, h⟩
  unfold sorR at h
  split at h
  · rename_i x
    unfold sorD at h
    split at h
    · rename_i xs hx
      split at h
      · rename_i hs
        obtain ⟨v, rfl, rv⟩ := repL1 rd
        obtain ⟨a, ws, rfl, h2, r2⟩ := getL_rep mr hx rv
        obtain ⟨hpy, hal, hso, hdp, hll⟩ := sortOk_parts hs
        obtain ⟨its, rvs, hl, hz⟩ := I.list (SqL.of h2)
        rw [Vals.ref1 r]
        have e := each_rep r2 rvs
        have hlen := e.length
        have er : PySem.W.EachIs (fun u d => ∃ as, PySem.Reads s.heap u (pyG d) as) its xs := (PySem.W.each_mem e).mono fun u d ⟨⟨v, q1, q2⟩, hd⟩ => Dp.reads I _ v u ((dp_of mr).1 q2 (hpy d hd)) q1
        have hln : line = 1000000 := rfl
        refine PySem.W.sorted_data hl.isList e er hal hso (by rw [sizeLine_eq]; omega) (fun b hb => by have := hdp b hb; omega) fun out ho eo => ?_
        obtain ⟨vs', q1, q2⟩ := rep_each eo
        obtain ⟨ep, he'⟩ := PyProof.Rows.sortedAll_at s.heap its out.toArray
        have hvl : vs'.length ≤ sizeLine := by rw [Vals.length q2, ho, sizeLine_eq]; omega
        exact ⟨.ref _, upd H (s.heap.objs.size + 1) (.lst vs'), I.laid (t' := s.toks) (fun _ _ => PyProof.Rows.sortedAll_old) (Nat.le_succ _) ⟨hvl, out, ep, q2, he'⟩, rfl, h.frozL mr (I.hok.fresh (Nat.le_succ _)) q1⟩
      · exact h.elim
    · exact h.elim
  · exact h.elim
theorem me_sor (c : CK X W G k af) {a : CE} {e : Expr} {p pos : Pos} (hg : Gl X "sorted") (ha : PE X e (Tm X.K W (RD X.K) (evalE G a))) (hp : plainE e = true) : PE X (.Call (.Name "sorted" p) [e] [] pos) (Tm X.K W (RD X.K) (evalE G (.x1 .sor a))) := by
  have hm : X.mg "sorted" = none := c.g.blt _ (by decide +kernel)
  refine (pe_callB (cv_sor c.hu) hg hm PyProof.Rows.boot_sorted (ma_cons ha (ma_nil (W := W) (G := G)) hp) (by decide +kernel) (by decide +kernel) (star_plain hp) rfl).imp fun σ H Q h => tm_cb ?_
  obtain ⟨φ, F, en, m, mr, er, q⟩ := h
  refine ⟨φ, F, en, m, mr, er, ?_⟩
  show Pst X.K W (RD X.K) σ φ F H (((evalE G a en m).bind fun x m => (Res.ok [] m).bind fun vs m => .ok (x :: vs) m).bind fun vs m => sorR vs m) Q
  have q : Pst X.K W (RD X.K) σ φ F H ((evalE G a en m).bind fun x m => x1D .sor x m) Q := q
  cases hc : evalE G a en m with
  | stuck => rw [hc] at q; exact q.elim
  | exc z m3 => rw [hc] at q; exact q
  | ok d m3 => rw [hc] at q; exact q
theorem rep_rgV {K : PySem.W.Frag} {φ : List Addr} {F : Hp} (i j : Int) : RepL K φ F ((List.range (j - i).toNat).map fun k => D.int (i + (k : Nat))) (rgV i j) := by
  have e1 : ((List.range (j - i).toNat).map fun k => D.int (i + (k : Nat))) = ((List.range (j - i).toNat).map fun k => i + ((k : Nat) : Int)).map D.int := by rw [List.map_map]; rfl
  have e2 : rgV i j = ((List.range (j - i).toNat).map fun k => i + ((k : Nat) : Int)).map V.int := by unfold rgV; rw [List.map_map]; rfl
  rw [e1, e2]
  exact RepL.ints
theorem rngL_tm {σ : L2.St} {φ : List Addr} {F H : Hp} {m : Mem} {i j : Int} {Q : VK} (mr : MR X.K φ F H m) (q : Pst X.K W (RD X.K) σ φ F H (rngLD i j m) Q) : RgOk i j ∧ ∀ p, H p = none → Q (.ref p) (upd H p (.lst (rgV i j))) := by
  unfold rngLD at q
  split at q
  · rename_i h
    have hln : line = 1000000 := rfl
    exact ⟨⟨h.1, h.2.1, h.2.2.1, h.2.2.2.1, by omega⟩, fun p hp => q.newL mr hp (rep_rgV i j)⟩
  · exact q.elim
theorem me_rngL (c : CK X W G k af) (hc : X.calm = true) {a : CE} {e : Expr} {p p2 q pos : Pos} (hg : Gl X "list") (hg2 : Gl X "range") (ha : PE X e (Tm X.K W (RD X.K) (evalE G a))) (hp : plainE e = true) :
    PE X (.Call (.Name "list" p) [.Call (.Name "range" p2) [e] [] q] [] pos) (Tm X.K W (RD X.K) (evalE G (.x1 .rngL a))) := by
  have hm : X.mg "list" = none := c.g.blt _ (by decide +kernel)
  have hm2 : X.mg "range" = none := c.g.blt _ (by decide +kernel)
  refine (pe_listRg hc hg hm (prg_1 hg2 hm2 ha (star_plain hp)) rfl).imp fun σ H Q ⟨φ, F, en, m, mr, er, q⟩ => ⟨φ, F, en, m, mr, er, Pst.bind q fun x m1 φ1 F1 H1 v _ s1 mr1 r1 q1 => ?_⟩
  have q1 : Pst X.K W (RD X.K) σ φ1 F1 H1 (x1D .rngL x m1) Q := q1
  cases x with
  | int j =>
    cases r1
    exact ⟨j, rfl, rngL_tm mr1 q1⟩
  | _ => exact q1.elim
theorem me_rngL2 (c : CK X W G k af) (hc : X.calm = true) {a b : CE} {e e' : Expr} {p p2 q pos : Pos} (hg : Gl X "list") (hg2 : Gl X "range") (ha : PE X e (Tm X.K W (RD X.K) (evalE G a))) (hb : PE X e' (Tm X.K W (RD X.K) (evalE G b))) (hp : plainE e = true) (hp' : plainE e' = true) :
    PE X (.Call (.Name "list" p) [.Call (.Name "range" p2) [e, e'] [] q] [] pos) (Tm X.K W (RD X.K) (evalE G (.x2 .rngL2 a b))) := by
  have hm : X.mg "list" = none := c.g.blt _ (by decide +kernel)
  have hm2 : X.mg "range" = none := c.g.blt _ (by decide +kernel)
  refine (pe_listRg hc hg hm (prg_2 hg2 hm2 ha hb (star_plain hp) (star_plain hp') ?_) rfl).imp fun σ H Q ⟨φ, F, en, m, mr, er, q⟩ => ⟨φ, F, en, m, mr, er, Pst.bind q fun x m1 φ1 F1 H1 v _ s1 mr1 r1 q1 => ?_⟩
  · refine back_any (es := [e']) ?_
    rw [star_plain hp']
    rfl
  have q1 : Pst X.K W (RD X.K) σ φ1 F1 H1 ((evalE G b en m1).bind fun y m => x2D .rngL2 x y m) Q := q1
  refine ⟨φ1, F1, en, m1, mr1, er.mono s1.pre s1.fx, Pst.bind q1 fun y m2 φ2 F2 H2 u _ s2 mr2 r2 q2 => ?_⟩
  have r1 := r1.mono s2.pre s2.fx
  cases x with
  | int i =>
    cases y with
    | int j =>
      cases r1
      cases r2
      exact ⟨i, j, rfl, rfl, rngL_tm mr2 q2⟩
    | _ => exact q2.elim
  | _ => exact q2.elim
end
end Mi

set_option Elab.async false
set_option linter.all false
set_option maxRecDepth 100000
set_option maxHeartbeats 4000000
/-! MiN3: sorted dicts and sets. -/
namespace Mi
open PySem L2 PySem.W
/-! ### sorted(set(pairs)) -/
theorem ltP2_iff {p q : Int × Int} : ltP2 p q = true ↔ p.1 < q.1 ∨ (p.1 = q.1 ∧ p.2 < q.2) := by simp [ltP2]
theorem insP_mem (i : Int × Int) : ∀ (l : List (Int × Int)) (k : Int × Int), k ∈ insP i l ↔ k = i ∨ k ∈ l
  | [], k => by simp [insP]
  | j :: r, k => by
    unfold insP
    split
    · simp
    · split
      · rename_i h; subst h; simp
      · rw [List.mem_cons, insP_mem i r k, List.mem_cons]
        constructor <;> (intro h; rcases h with h | h | h <;> simp [h])
theorem insP_sorted (i : Int × Int) : ∀ (l : List (Int × Int)), l.Pairwise (fun a b => ltP2 a b = true) → (insP i l).Pairwise (fun a b => ltP2 a b = true)
  | [], _ => by simp [insP]
  | j :: r, h => by
    obtain ⟨h1, h2⟩ := List.pairwise_cons.mp h
    unfold insP
    split
    · rename_i q
      refine List.pairwise_cons.mpr ⟨fun y hy => ?_, h⟩
      rcases List.mem_cons.mp hy with e | e
      · rw [e]; exact q
      · have a1 := ltP2_iff.mp q
        have a2 := ltP2_iff.mp (h1 y e)
        exact ltP2_iff.mpr (by omega)
    · split
      · exact h
      · rename_i q1 q2
        refine List.pairwise_cons.mpr ⟨fun y hy => ?_, insP_sorted i r h2⟩
        rcases (insP_mem i r y).mp hy with e | e
        · rw [e]
          have a1 : ¬ (i.1 < j.1 ∨ (i.1 = j.1 ∧ i.2 < j.2)) := fun z => q1 (ltP2_iff.mpr z)
          have a2 : ¬ (i.1 = j.1 ∧ i.2 = j.2) := fun z => q2 (Prod.ext z.1 z.2)
          exact ltP2_iff.mpr (by omega)
        · exact h1 y e
theorem sortSetP_mem : ∀ (l : List (Int × Int)) (k : Int × Int), k ∈ sortSetP l ↔ k ∈ l
  | [], k => by simp [sortSetP]
  | i :: l, k => by
    show k ∈ insP i (sortSetP l) ↔ _
    rw [insP_mem, sortSetP_mem l k, List.mem_cons]
theorem sortSetP_sorted : ∀ l : List (Int × Int), (sortSetP l).Pairwise (fun a b => ltP2 a b = true)
  | [] => .nil
  | i :: l => insP_sorted i _ (sortSetP_sorted l)
theorem sortedP_eq : ∀ {l l' : List (Int × Int)}, l.Pairwise (fun a b => ltP2 a b = true) → l'.Pairwise (fun a b => ltP2 a b = true) → (∀ k, k ∈ l ↔ k ∈ l') → l = l'
  | [], [], _, _, _ => rfl
  | [], j :: r, _, _, h => by have := (h j).mpr List.mem_cons_self; cases this
  | i :: l, [], _, _, h => by have := (h i).mp List.mem_cons_self; cases this
  | i :: l, j :: r, h1, h2, h => by
    obtain ⟨a1, a2⟩ := List.pairwise_cons.mp h1
    obtain ⟨b1, b2⟩ := List.pairwise_cons.mp h2
    have irr : ∀ p : Int × Int, ltP2 p p = true → False := fun p hp => by have := ltP2_iff.mp hp; omega
    have e : i = j := by
      have m1 := (h i).mp List.mem_cons_self
      have m2 := (h j).mpr List.mem_cons_self
      rcases List.mem_cons.mp m1 with e | e
      · exact e
      · rcases List.mem_cons.mp m2 with e2 | e2
        · exact e2.symm
        · have c1 := ltP2_iff.mp (b1 _ e)
          have c2 := ltP2_iff.mp (a1 _ e2)
          omega
    subst e
    rw [sortedP_eq a2 b2 fun k => ?_]
    constructor
    · intro hk
      rcases List.mem_cons.mp ((h k).mp (List.mem_cons_of_mem _ hk)) with e | e
      · exact (irr _ (e ▸ a1 _ hk)).elim
      · exact e
    · intro hk
      rcases List.mem_cons.mp ((h k).mpr (List.mem_cons_of_mem _ hk)) with e | e
      · exact (irr _ (e ▸ b1 _ hk)).elim
      · exact e
theorem srt_pairs (l : List (Int × Int)) : srtD (l.map pairD) = (l.mergeSort fun p q => decide (p.1 < q.1 ∨ (p.1 = q.1 ∧ p.2 ≤ q.2))).map pairD := by
  unfold srtD
  refine (List.map_mergeSort (f := pairD) (s := dataLe false pyG) fun a _ b _ => ?_).symm
  have h := congrFun (congrFun (dataLe_ii (β := Int × Int) (fun p => p.1) (fun p => p.2)) a) b
  exact h.symm
theorem pairs_py : ∀ l : List (Int × Int), D.pys? (l.map pairD) = some (l.map fun p => PyData.tuple [.int p.1, .int p.2])
  | [] => rfl
  | p :: l => by
    have e : (pairD p).py? = some (.tuple [.int p.1, .int p.2]) := rfl
    rw [List.map_cons, D.pys?, e, pairs_py l]
    rfl
theorem sortOk_pairs {l : List (Int × Int)} (h : l.length ≤ 1000000) : sortOk (l.map pairD) = true := by
  unfold sortOk
  rw [pairs_py]
  simp only [List.all_map, Bool.and_eq_true, Bool.or_eq_true, List.length_map, decide_eq_true_eq]
  refine ⟨⟨⟨List.all_eq_true.mpr fun a _ => List.all_eq_true.mpr fun b _ => by simp [alike, alikeAll], .inl (List.all_eq_true.mpr fun a _ => rfl)⟩, List.all_eq_true.mpr fun a _ => by simp [PyData.depth, PyData.depthAll]⟩, h⟩
theorem srt_setP {l ps : List (Int × Int)} (hn : l.Nodup) (hm : ∀ k, k ∈ l ↔ k ∈ ps) : srtD (l.map pairD) = (sortSetP ps).map pairD := by
  rw [srt_pairs]
  congr 1
  have hperm := List.mergeSort_perm l fun p q : Int × Int => decide (p.1 < q.1 ∨ (p.1 = q.1 ∧ p.2 ≤ q.2))
  have hpw := List.pairwise_mergeSort (le := fun p q : Int × Int => decide (p.1 < q.1 ∨ (p.1 = q.1 ∧ p.2 ≤ q.2))) (fun a b c h1 h2 => by simp at *; omega) (fun a b => by simp; omega) l
  refine sortedP_eq ?_ (sortSetP_sorted ps) fun k => by rw [hperm.mem_iff, hm, sortSetP_mem]
  have h2 := hperm.nodup_iff.mpr hn
  refine (hpw.and h2).imp fun {a b} ⟨h1, h3⟩ => ltP2_iff.mpr ?_
  have h1 := of_decide_eq_true h1
  by_cases e1 : a.1 = b.1
  · have : a.2 ≠ b.2 := fun e2 => h3 (Prod.ext e1 e2)
    omega
  · omega
theorem pairsD_eq : ∀ {xs : List D} {ps : List (Int × Int)}, pairsD xs = some ps → xs = ps.map pairD
  | [], ps, h => by simp only [pairsD] at h; cases h; rfl
  | d :: xs, ps, h => by
    unfold pairsD at h
    split at h
    · rename_i e
      cases e
    · rename_i i j r e
      cases e
      obtain ⟨ps', e1, rfl⟩ := Option.map_eq_some_iff.mp h
      rw [pairsD_eq e1]
      rfl
    · cases h
variable [WW]
section
variable {X : Cx} {W : WX} {G : Gx} {k : Nat} {af : Bool} {pins : List (Addr × Obj)} {s : Shared} {σ : L2.St} {H : Hp} {φ : List Addr} {F : Hp}
/-- behind the items were collected: a new list, sorted -/
theorem sort_tail {us : List Value} {ws : List V} {xs : List D} {Q' : PySem.Fin → Shared → Prop} {E : Value → Shared → Prop} {A : Around} (I1 : Inv X pins σ H s) (er : EachIs (fun u d => ∃ as, PySem.Reads s.heap u (pyG d) as) us xs) (r2 : RepL X.K φ F xs ws) (rv : Vals ws us) (hs : sortOk xs = true) (hA : A.units + 60 < cLine)
    (q : ∀ (vs' : List V) (a : Addr) (s' : Shared), RepL X.K φ F (srtD xs) vs' → H a = none → Inv X pins σ (upd H a (.lst vs')) s' → Q' (.done (.ret (.ref a))) s') :
    wpAny (model X.prog X.w) A (Bind.bind (newList us) fun l => Bind.bind (holding [l] (call (.builtin "list.sort") [l] [])) fun _ => ret l) Q' E s := by
  obtain ⟨hpy, hal, hso, hdp, hll⟩ := sortOk_parts hs
  have e := each_rep r2 rv
  have hlen := e.length
  have hln : line = 1000000 := rfl
  refine wpAny_bind (wpAny_newList ?_ (by rw [sizeLine_eq]; omega))
  have hoL : (s.heap.push (PyProof.Rows.seqObj "list" us.toArray 0)).get? s.heap.objs.size = some (PyProof.Rows.seqObj "list" us.toArray 0) := Heap.get?_push_size _ rfl
  show wpAny _ _ _ _ _ { s with heap := s.heap.push (PyProof.Rows.seqObj "list" us.toArray 0) }
  have er' : EachIs (fun v b => ∃ as, PySem.Reads (sortingHeap (s.heap.push (PyProof.Rows.seqObj "list" us.toArray 0)) s.heap.objs.size us) v (pyG b) as) us xs :=
    er.mono fun _ _ ⟨as, r⟩ => ⟨as, PyProof.Rows.Reads.keeps (fun b o hb => sortingHeap_old (Nat.ne_of_lt (Heap.lt_size hb)) (Heap.get?_push_of_some _ hb)) r⟩
  refine wpAny_bind (wpAny_holding (wpAny_call_entry PyProof.Rows.slot_list_sort ⟨_, hoL, rfl⟩ PyProof.Rows.entry_list_sort
    (list_sort_vals (s := { s with heap := s.heap.push (PyProof.Rows.seqObj "list" us.toArray 0) }) (κ := dataKind (sortingHeap (s.heap.push (PyProof.Rows.seqObj "list" us.toArray 0)) s.heap.objs.size us) (xs.map pyG)) hoL
      (SortsAt.data (s := { s with heap := sortingHeap (s.heap.push (PyProof.Rows.seqObj "list" us.toArray 0)) s.heap.objs.size us }) (each_map (R := fun v d => ∃ as, PySem.Reads (sortingHeap (s.heap.push (PyProof.Rows.seqObj "list" us.toArray 0)) s.heap.objs.size us) v d as) pyG er') hal hso (bound_map fun b hb => by have := hdp b hb; simp only [Around.units] at *; omega))
      (by rw [sizeLine_eq]; omega) ⟨.none, rfl, ?_⟩)
    (PyProof.Rows.args_list_sort _)))
  obtain ⟨vs', q1, q2⟩ := rep_each (sortVals_data false e er' hal)
  obtain ⟨e', he'⟩ := PyProof.Rows.sortedHeap_at (vs := us) (out := (sortVals (dataKind (sortingHeap (s.heap.push (PyProof.Rows.seqObj "list" us.toArray 0)) s.heap.objs.size us) (xs.map pyG)) false us us).toArray) hoL
  have hvl : vs'.length ≤ sizeLine := by
    have := q1.len
    have h3 : (srtD xs).length = xs.length := List.length_mergeSort xs
    have h4 : vs'.length = (srtD xs).length := by first | exact this | exact this.symm
    rw [h4, h3, sizeLine_eq]; omega
  refine wpAny_pure (q vs' s.heap.objs.size _ q1 (I1.hok.fresh (Nat.le_refl _)) (I1.laid (t' := s.toks) (fun b u e => ?_) (Nat.le_refl _) (show ObjOk X.prog X.w _ _ _ (.lst vs') from ⟨hvl, _, e', q2, he'⟩)))
  have hb : b < s.heap.objs.size := Heap.lt_size e
  rw [PyProof.Rows.sortedHeap_old (Nat.ne_of_lt hb) (by rw [PyProof.Rows.size_push']; exact Nat.lt_succ_of_lt hb)]
  exact Heap.get?_push_of_some _ e
def soNR (ds : List D) (m : Mem) : Res D := match ds with
  | [x] => soND x m
  | _ => .stuck
theorem rn_refs : ∀ {kvs : List (NestedKey × D)} {xs : List (NestedKey × Addr × V)}, RepN X.K φ F kvs xs → RepL X.K φ F (kvs.map fun p => dNK p.1) (xs.map fun x => V.ref x.2.1)
  | _, _, .nil => .nil
  | _, _, .cons h1 h2 h3 h4 => .cons h1 (rn_refs h4)
theorem cv_soN (hw : WW.w = X.w) (hc : X.calm = true) (hu : X.A.units + 65 < cLine) : CallR X (.builtin "sorted") (CVof X.K W soNR) := by
  intro pins s σ H vs us Q I r ⟨σ', φ, F, m, ds, mr, rd, h⟩
  unfold soNR at h
  split at h
  · rename_i x
    unfold soND at h
    split at h
    · rename_i kvs e1
      split at h
      · rename_i hs
        obtain ⟨v, rfl, rv⟩ := repL1 rd
        obtain ⟨p, a, rfl, rfl, hp, hm, hl, hsy, hn, xs, ha, rn⟩ := getN_rep mr e1 rv
        obtain ⟨u, rfl, rx⟩ := vals1 r
        cases rx
        obtain ⟨⟨ys, nv, o, es, ep, h1, h2, h3, h4⟩, _, _⟩ := I.hok a _ ha
        have k1 := congrArg List.length (nv_keys nv)
        have k2 := congrArg List.length (rn_keys rn)
        rw [List.length_map, List.length_map] at k1 k2
        have k3 : es.size = ys.length := by rw [← Array.length_toList, h4, List.length_map]
        have hsz : es.size ≤ sizeLine := by omega
        refine Calls.call_function_entry PyProof.Rows.kind_sorted PyProof.Rows.plain_sorted PyProof.Rows.entry_sorted (PyProof.Rows.args_sorted1 _) ?_
        unfold Builtin.«sorted»
        refine wpAny_bind (m := checkCount "sorted" 1 1 _) (wpAny_pure ?_)
        refine wpAny_bind (kdu_collect (A := X.A.in1) (kdl_raw hsy h2 h3) (I.ok.hd hc) h1 hsz fun h' tk acc hk hacc => ?_)
        have ea : acc.toList = ys.map fun y => Value.ref y.2.1 := by
          have hl2 : acc.toList.length = ys.length := by rw [Array.length_toList, hacc.1]; exact k3
          apply List.ext_getElem?
          intro j
          rw [List.getElem?_map]
          cases hj : acc.toList[j]? with
          | none =>
            have q1 := List.getElem?_eq_none_iff.mp hj
            rw [List.getElem?_eq_none (by omega)]
            rfl
          | some v =>
            obtain ⟨en, hen, hv⟩ := hacc.2 j v (by rw [← Array.getElem?_toList]; exact hj)
            rw [← Array.getElem?_toList, h4, List.getElem?_map] at hen
            cases hb : ys[j]? with
            | none => rw [hb] at hen; cases hen
            | some b =>
              rw [hb] at hen
              cases hen
              rw [hv]
              rfl
        have rvv : Vals (xs.map fun x => V.ref x.2.1) acc.toList := by
          rw [ea]
          have go : ∀ {xs : List (NestedKey × Addr × V)} {ys : List (NestedKey × Addr × Value)}, NVs xs ys → Vals (xs.map fun x => V.ref x.2.1) (ys.map fun y => Value.ref y.2.1) := fun q => by
            induction q with
            | nil => exact .nil
            | cons q1 _ ih => exact .cons (by show Value.ref _ = Value.ref _; rw [q1.2.1]) ih
          exact go nv

        have I1 : Inv X pins σ H { s with heap := h', toks := tk } := I.kept hk
        obtain ⟨hpy, _, _, _, _⟩ := sortOk_parts hs
        have r2 := rn_refs rn
        have er : EachIs (fun u d => ∃ as, PySem.Reads h' u (pyG d) as) acc.toList (kvs.map fun p => dNK p.1) := (each_mem (each_rep r2 rvv)).mono fun u d ⟨⟨v, q1, q2⟩, hd⟩ => Dp.reads I1 _ v u ((dp_of mr).1 q2 (hpy d hd)) q1
        exact sort_tail I1 er r2 rvv hs (by show X.A.units + 1 + 60 < cLine; omega) fun vs' a' s' q1 q2 q3 => ⟨_, rfl, .ref a', _, q3, rfl, h.newL mr q2 q1⟩
      · exact h.elim
    · exact h.elim
  · exact h.elim
theorem me_soN (c : CK X W G k af) (hc : X.calm = true) {a : CE} {e : Expr} {p pos : Pos} (hg : Gl X "sorted") (ha : PE X e (Tm X.K W (RD X.K) (evalE G a))) (hp : plainE e = true) : PE X (.Call (.Name "sorted" p) [e] [] pos) (Tm X.K W (RD X.K) (evalE G (.x1 .soN a))) := by
  have hm : X.mg "sorted" = none := c.g.blt _ (by decide +kernel)
  refine (pe_callB (cv_soN c.g.ww hc c.hu) hg hm PyProof.Rows.boot_sorted (ma_cons ha (ma_nil (W := W) (G := G)) hp) (by decide +kernel) (by decide +kernel) (star_plain hp) rfl).imp fun σ H Q h => tm_cb ?_
  obtain ⟨φ, F, en, m, mr, er, q⟩ := h
  refine ⟨φ, F, en, m, mr, er, ?_⟩
  show Pst X.K W (RD X.K) σ φ F H (((evalE G a en m).bind fun x m => (Res.ok [] m).bind fun vs m => .ok (x :: vs) m).bind fun vs m => soNR vs m) Q
  have q : Pst X.K W (RD X.K) σ φ F H ((evalE G a en m).bind fun x m => x1D .soN x m) Q := q
  cases hc : evalE G a en m with
  | stuck => rw [hc] at q; exact q.elim
  | exc z m3 => rw [hc] at q; exact q
  | ok d m3 => rw [hc] at q; exact q
def ilP (p : Int × Int) : List Int := [p.1, p.2]
def plI (l : List Int) : Int × Int := (l.getD 0 0, l.getD 1 0)
/-- where the pairs stand -/
theorem rep_pairs {K : PySem.W.Frag} (mr : Sub F H) : ∀ {ps : List (Int × Int)} {ws : List V}, RepL K φ F (ps.map pairD) ws → ∃ ks : List (Addr × List Int), ws = ks.map (fun p => V.ref p.1) ∧ ks.map (·.2) = ps.map ilP ∧ (∀ p ∈ ks, SqT K H p.1 (p.2.map V.int)) ∧ ∀ p ∈ ks, ∃ q : Int × Int, p.2 = ilP q ∧ q ∈ ps ∧ Rep K φ F (pairD q) (.ref p.1)
  | [], _, .nil => ⟨[], rfl, rfl, (fun _ h => by cases h), (fun _ h => by cases h)⟩
  | q :: ps, _, .cons h1 h2 => by
    obtain ⟨ks, rfl, e2, h3, h4⟩ := rep_pairs mr h2
    have h1 : Rep K φ F (.tup [.int q.1, .int q.2]) _ := h1
    cases h1 with
    | @tup a _ us hf hr =>
      have hr' : us = [V.int q.1, V.int q.2] := by
        cases hr with
        | cons x1 hr => cases hr with
          | cons x2 hr => cases hr; cases x1; cases x2; rfl
      subst hr'
      refine ⟨(a, ilP q) :: ks, rfl, by simp [e2], fun p hp => ?_, fun p hp => ?_⟩
      · rcases List.mem_cons.mp hp with e | e
        · rw [e]; exact SqT.of (mr _ _ hf)
        · exact h3 p e
      · rcases List.mem_cons.mp hp with e | e
        · rw [e]; exact ⟨q, rfl, List.mem_cons_self, .tup hf hr⟩
        · obtain ⟨q', a1, a2, a3⟩ := h4 p e
          exact ⟨q', a1, List.mem_cons_of_mem _ a2, a3⟩
theorem me_srp (c : CK X W G k af) (hc : X.calm = true) {a : CE} {e : Expr} {p p2 q pos : Pos} (hg : Gl X "sorted") (hg2 : Gl X "set") (ha : PE X e (Tm X.K W (RD X.K) (evalE G a))) (hp : plainE e = true) :
    PE X (.Call (.Name "sorted" p) [.Call (.Name "set" p2) [e] [] q] [] pos) (Tm X.K W (RD X.K) (evalE G (.x1 .srp a))) := by
  have hm : X.mg "sorted" = none := c.g.blt _ (by decide +kernel)
  have hm2 : X.mg "set" = none := c.g.blt _ (by decide +kernel)
  have hu := c.hu
  refine ⟨fun pins s σ H Q I h => ?_⟩
  obtain ⟨φ, F, en, m, mr, er, hq⟩ := h
  refine PyProof.Rows.Call_ (ld_blt I hg hm PyProof.Rows.boot_sorted ?_)
  refine PyProof.Rows.callWith_builtin1 (PyProof.Rows.args_cons ?_ rfl) rfl rfl
  refine PyProof.Rows.Call_ (ld_blt I hg2 hm2 PyProof.Rows.boot_set ?_)
  refine PyProof.Rows.callWith_type1 (PyProof.Rows.args_cons (thn (ha.run pins s σ H (fun v H1 => ∃ (x : D) (m1 : Mem) (φ1 : List Addr) (F1 : Hp), MR X.K φ1 F1 H1 m1 ∧ Rep X.K φ1 F1 x v ∧ Pst X.K W (RD X.K) σ φ1 F1 H1 (srpD x m1) Q) I ⟨φ, F, en, m, mr, er, Pst.bind hq fun x m1 φ1 F1 H1 v _ s1 mr1 r1 q1 => ⟨x, m1, φ1, F1, mr1, r1, q1⟩⟩) fun v s1 ⟨vv, H1, I1, r1, x, m1, φ1, F1, mr1, rx, q1⟩ => PyProof.Rows.args_nil ?_) (star_plain hp)) (star_plain hp) rfl
  unfold srpD at q1
  split at q1
  · rename_i xs hx
    split at q1
    · rename_i ps hps
      split at q1
      · rename_i hl
        have exs := pairsD_eq hps
        subst exs
        obtain ⟨b, ws, rfl, h2, r2⟩ := getL_rep mr1 hx rx
        obtain ⟨ks, rfl, k2, k3, k4⟩ := rep_pairs mr1.ext r2
        cases r1
        have hkl : ks.length = ps.length := by have := congrArg List.length k2; simpa using this
        obtain ⟨its, rv, pl, hz⟩ := I1.list (SqL.of h2)
        refine call_set_tups (P := X.prog) (w := X.w) ks (I1.ok.hd hc) pl.isList (by simpa using refs_of_vals rv) (fun p hp => I1.isT (k3 p hp)) (by omega) (by omega) fun h' tk L es ep t R g kk => PyProof.Rows.args_nil ?_
        have I2 : Inv X pins σ H1 { s1 with heap := h', toks := tk } := I1.kept kk
        obtain ⟨o, ho, hex, hd⟩ := R.ob
        have hsz := SetTR.size (s := { s1 with heap := h', toks := tk }) R
        have hfit := SetTR.fits (s := { s1 with heap := h', toks := tk }) R
        have hfew := R.few
        refine Calls.call_function_entry PyProof.Rows.kind_sorted PyProof.Rows.plain_sorted PyProof.Rows.entry_sorted (PyProof.Rows.args_sorted1 _) ?_
        unfold Builtin.«sorted»
        refine wpAny_bind (m := checkCount "sorted" 1 1 _) (wpAny_pure ?_)
        refine wpAny_bind (collect_set (A := X.A.in1) (s := { s1 with heap := h', toks := tk }) (I1.ok.hd hc) ⟨o, ho, hex.1, hd⟩ hfit (by unfold scanBound; omega) R.tab.ris R.led fun s2 vs k1 hz1 g1 o1 pm => ?_)
        have hes : es.toList.map (·.2) = L.map fun q => Value.ref q.1 := by
          rw [R.rows]
          unfold L2.rowsOf
          rw [List.map_map]
          rfl
        rw [hes] at pm
        have ord : ∀ vs : List Value, (∀ v ∈ vs, ∃ q ∈ L, v = Value.ref q.1) → ∃ L1 : List (Addr × List Int), vs = L1.map (fun q => Value.ref q.1) ∧ ∀ q ∈ L1, q ∈ L := by
          intro vs
          induction vs with
          | nil => intro _; exact ⟨[], rfl, fun q hq => (by cases hq)⟩
          | cons v vs ih =>
            intro hv
            obtain ⟨q, hq, e⟩ := hv v List.mem_cons_self
            obtain ⟨L1, e1, hs⟩ := ih fun u hu => hv u (List.mem_cons_of_mem _ hu)
            refine ⟨q :: L1, by rw [List.map_cons, e, e1], fun r hr => ?_⟩
            rcases List.mem_cons.mp hr with z | z
            · rw [z]; exact hq
            · exact hs r z
        have one : ∀ q ∈ L, ∀ r ∈ L, q.1 = r.1 → q = r := fun q hq r hr e => by
          have a1 := R.tup q hq
          have a2 := R.tup r hr
          rw [e] at a1
          have e2 : q.2 = r.2 := a1.inj a2
          exact Prod.ext e e2
        have perm_of : ∀ L1 : List (Addr × List Int), (∀ q ∈ L1, q ∈ L) → (L1.map (fun q => Value.ref q.1)).Perm (L.map fun q => Value.ref q.1) → L1.Perm L := by
          intro L1 hs pm1
          have nL : L.Nodup := nodup_of_map R.nd
          have nref : (L.map fun q => Value.ref q.1).Nodup := by
            refine List.pairwise_map.mpr (List.Pairwise.imp_of_mem (fun {q r} hq hr hne e => ?_) nL)
            injection e with e
            exact hne (one q hq r hr e)
          have n1 : L1.Nodup := nodup_of_map (pm1.nodup_iff.mpr nref)
          refine (List.perm_ext_iff_of_nodup n1 nL).mpr fun q => ⟨hs q, fun hq => ?_⟩
          have hm : Value.ref q.1 ∈ L1.map (fun q => Value.ref q.1) := pm1.mem_iff.mpr (List.mem_map.mpr ⟨q, hq, rfl⟩)
          obtain ⟨r, hr, e⟩ := List.mem_map.mp hm
          injection e with e
          rw [← one r (hs r hr) q hq e]
          exact hr
        obtain ⟨L1, e1, hs1⟩ := ord vs fun v hv => by
          obtain ⟨q, hq, e⟩ := List.mem_map.mp (pm.mem_iff.mp hv)
          exact ⟨q, hq, e.symm⟩
        subst e1
        have pL : L1.Perm L := perm_of L1 hs1 pm
        have I3 : Inv X pins σ H1 s2 := I2.call' (ch := []) o1 (Un.kept k1) (I2.hok.kept k1) (by rw [g1]; exact I2.bare) (fun _ z => nomatch z)
        have hks : ∀ q ∈ L1, q ∈ ks := fun q hq => by
          have := g.sub q (hs1 q hq)
          exact List.mem_of_mem_take this
        -- the pairs in that order
        have hq2 : ∀ q ∈ L1, q.2 = ilP (plI q.2) ∧ plI q.2 ∈ ps ∧ Rep X.K φ1 F1 (pairD (plI q.2)) (.ref q.1) := fun q hq => by
          obtain ⟨r, a1, a2, a3⟩ := k4 q (hks q hq)
          have e3 : plI q.2 = r := by rw [a1]; rfl
          rw [e3]
          exact ⟨a1, a2, a3⟩
        have r3 : ∀ L2 : List (Addr × List Int), (∀ q ∈ L2, q ∈ L1) → RepL X.K φ1 F1 ((L2.map fun q => plI q.2).map pairD) (L2.map fun q => V.ref q.1) := by
          intro L2
          induction L2 with
          | nil => intro _; exact .nil
          | cons q L2 ih => intro hL; exact .cons (hq2 q (hL q List.mem_cons_self)).2.2 (ih fun r hr => hL r (List.mem_cons_of_mem _ hr))
        have r4 := r3 L1 fun q hq => hq
        have hnd : (L1.map fun q => plI q.2).Nodup := by
          have n2 : (L1.map (·.2)).Nodup := (pL.map (·.2)).nodup_iff.mpr R.nd
          have n3 : L1.Pairwise (fun q r => q.2 ≠ r.2) := List.pairwise_map.mp n2
          refine List.pairwise_map.mpr (List.Pairwise.imp_of_mem (fun {q r} hq hr hne e => hne ?_) n3)
          rw [(hq2 q hq).1, (hq2 r hr).1, e]
        have hmem : ∀ z, z ∈ L1.map (fun q => plI q.2) ↔ z ∈ ps := fun z => by
          constructor
          · intro hz
            obtain ⟨q, hq, rfl⟩ := List.mem_map.mp hz
            exact (hq2 q hq).2.1
          · intro hz
            have : ilP z ∈ ks.map (·.2) := by rw [k2]; exact List.mem_map.mpr ⟨z, hz, rfl⟩
            obtain ⟨q, hq, e3⟩ := List.mem_map.mp this
            have hq4 := g.all q (by rw [List.take_length]; exact hq)
            obtain ⟨r, hr, e4⟩ := List.mem_map.mp hq4
            refine List.mem_map.mpr ⟨r, pL.mem_iff.mpr hr, ?_⟩
            rw [e4, e3]
            rfl
        have hl1 : (L1.map fun q => plI q.2).length ≤ 1000000 := by
          rw [List.length_map, pL.length_eq]; omega
        have hso := sortOk_pairs hl1
        obtain ⟨hpy, _, _, _, _⟩ := sortOk_parts hso
        have rvv : Vals (L1.map fun q => V.ref q.1) (L1.map fun q => Value.ref q.1) := vals_of_refs L1
        have er : EachIs (fun u d => ∃ as, PySem.Reads s2.heap u (pyG d) as) (L1.map fun q => Value.ref q.1) ((L1.map fun q => plI q.2).map pairD) := (each_mem (each_rep r4 rvv)).mono fun u d ⟨⟨v, a1, a2⟩, hd⟩ => Dp.reads I3 _ v u ((dp_of mr1).1 a2 (hpy d hd)) a1
        refine sort_tail I3 er r4 rvv hso (by show X.A.units + 1 + 60 < cLine; omega) fun vs' a' s' a1 a2 a3 => ?_
        rw [srt_setP hnd hmem] at a1
        exact ⟨_, rfl, .ref a', _, a3, rfl, q1.frozL mr1 a2 a1⟩
      · exact q1.elim
    · exact q1.elim
  · exact q1.elim
end
end Mi

set_option Elab.async false
set_option linter.all false
set_option maxRecDepth 100000
set_option maxHeartbeats 4000000
/-! MiF: a checked expression does what the small language says. -/
namespace Mi
open PySem L2
variable [WW]
def SE (G : Gx) (ce : CE) : Prop := ∀ {X : Cx} {W : WX} {k : Nat} {af calm : Bool}, CK X W G k af → (calm = true → X.calm = true) → ∀ e : Expr, chkE X.N X.env.scope af calm ce e = true →
  PE X e (Tm X.K W (RD X.K) (evalE G ce)) ∧ (notIf ce = true → PT X e (TB X W G ce))
def SL (G : Gx) (cs : CEs) : Prop := ∀ {X : Cx} {W : WX} {k : Nat} {af calm : Bool}, CK X W G k af → (calm = true → X.calm = true) → ∀ es : List Expr, chkL X.N X.env.scope af calm cs es = true →
  PA X es (TL X W G cs) ∧ (notIfs cs = true → es ≠ [] → ∀ pos, PW X (.BoolOp .And es pos) (Tm X.K W RQ (evalAnd G cs)) ∧ PW X (.BoolOp .Or es pos) (Tm X.K W RQ (evalOr G cs)) ∧ PE X (.BoolOp .And es pos) (TV X W (evalAnd G cs)) ∧ PE X (.BoolOp .Or es pos) (TV X W (evalOr G cs))) ∧
  (es.length ≤ 1 → notIfs cs = true → PTs X es (Tm X.K W RQ (evalAnd G cs)))
def SP (G : Gx) (ps : CPs) : Prop := ∀ {X : Cx} {W : WX} {k : Nat} {af calm : Bool}, CK X W G k af → (calm = true → X.calm = true) → ∀ (ks : List (Option Expr)) (vs : List Expr), chkP X.N X.env.scope af calm ps ks vs = true →
  (∀ pos, PPs X pos ks vs (trsOf X W G ps)) ∧ ks.all (·.isSome) = true ∧ ks.length = vs.length
def SO (G : Gx) (o : CO) : Prop := ∀ {X : Cx} {W : WX} {k : Nat} {af calm : Bool}, CK X W G k af → (calm = true → X.calm = true) → ∀ e : Option Expr, chkO X.N X.env.scope af calm o e = true → PO X e (TOo X W G o)
def SI (G : Gx) (it : CI) : Prop := ∀ {X : Cx} {W : WX} {k : Nat} {af calm : Bool}, CK X W G k af → (calm = true → X.calm = true) → ∀ (tg e : Expr), chkI X.N X.env.scope af calm it e = true → (zipB it = true → ∃ elts kk p, tg = .Tuple elts kk p) →
  PI X tg e (TIm X W G it) ∧ plainE e = true
section
variable {X : Cx} {W : WX} {G : Gx} {k : Nat} {af calm : Bool}
theorem both {ce : CE} {e : Expr} (h : PE X e (Tm X.K W (RD X.K) (evalE G ce))) (ht : testB e = true) : PE X e (Tm X.K W (RD X.K) (evalE G ce)) ∧ (notIf ce = true → PT X e (TB X W G ce)) := ⟨h, fun _ => mt_plain h ht⟩
theorem blk_ck (c : CK X W G k af) {s : Shared} {H : Hp} {scope : Scope} {cenv : Env} {fp : List Addr} : CK (X.blk s H scope cenv fp) W0 G k false :=
  ⟨c.g, c.hu, c.room, takes0, c.nd, (fun h => nomatch h), (fun h => nomatch h), (fun h => nomatch h), fun h => nomatch h⟩
theorem se_cst (d : D) : SE G (.cst d) := by
  intro X W k af calm c hc e h
  cases e with
  | Constant v n p =>
    cases v with
    | int j =>
      cases d with
      | int i =>
        have e := of_decide_eq_true (show decide (i = j) = true from h)
        subst e
        exact both (me_cst pe_int fun φ F => .int _) rfl
      | _ => exact (Bool.false_ne_true h).elim
    | str j =>
      cases d with
      | str i =>
        have e := of_decide_eq_true (show decide (i = j) = true from h)
        subst e
        exact both (me_cst pe_str fun φ F => .str _) rfl
      | _ => exact (Bool.false_ne_true h).elim
    | bool j =>
      cases d with
      | bl i =>
        have e := of_decide_eq_true (show decide (i = j) = true from h)
        subst e
        exact both (me_cst pe_bl fun φ F => .bl _) rfl
      | _ => exact (Bool.false_ne_true h).elim
    | none =>
      cases d with
      | non => exact both (me_cst pe_non fun φ F => .non) rfl
      | _ => exact (Bool.false_ne_true h).elim
    | _ => cases d <;> exact (Bool.false_ne_true h).elim
  | _ => cases d <;> exact (Bool.false_ne_true h).elim
theorem se_var (i : Nat) (x : Str) : SE G (.var i x) := by
  intro X W k af calm c hc e h
  cases e with
  | Name y p =>
    simp only [chkE, Bool.and_eq_true, decide_eq_true_eq] at h
    obtain ⟨⟨⟨⟨h1, h2⟩, h3⟩, h4⟩, h5⟩ := h
    subst h1
    exact both (me_var h2 (vis_of h3) (not_t h4) (not_t h5)) rfl
  | _ => exact (Bool.false_ne_true h).elim
theorem se_glb (x : Str) : SE G (.glb x) := by
  intro X W k af calm c hc e h
  cases e with
  | Name y p =>
    simp only [chkE, Bool.and_eq_true, decide_eq_true_eq] at h
    obtain ⟨⟨h1, h2⟩, h3⟩ := h
    subst h1
    exact both (me_glb c (gl_of h2) (not_t h3)) rfl
  | _ => exact (Bool.false_ne_true h).elim
theorem se_bin {o : Operator} {a b : CE} (ha : SE G a) (hb : SE G b) : SE G (.bin o a b) := by
  intro X W k af calm c hc e h
  cases e with
  | BinOp e o' e' p =>
    simp only [chkE, Bool.and_eq_true, decide_eq_true_eq] at h
    obtain ⟨⟨h1, h2⟩, h3⟩ := h
    subst h1
    exact both (me_bin (ha c hc e h2).1 (hb c hc e' h3).1) rfl
  | _ => exact (Bool.false_ne_true h).elim
theorem se_neg {a : CE} (ha : SE G a) : SE G (.neg a) := by
  intro X W k af calm c hc e h
  cases e with
  | UnaryOp u e p =>
    cases u with
    | USub => exact both (me_neg (ha c hc e h).1) rfl
    | _ => exact (Bool.false_ne_true h).elim
  | _ => exact (Bool.false_ne_true h).elim
theorem se_cmp {o : CmpOp} {a b : CE} (ha : SE G a) (hb : SE G b) : SE G (.cmp o a b) := by
  intro X W k af calm c hc e h
  cases e with
  | Compare e os es p =>
    rcases os with _ | ⟨o', _ | ⟨o2, os⟩⟩ <;> rcases es with _ | ⟨e', _ | ⟨e2, es⟩⟩ <;> try first | exact (Bool.false_ne_true h).elim | (simp [chkE] at h; done)
    simp only [chkE, Bool.and_eq_true, decide_eq_true_eq] at h
    obtain ⟨⟨h1, h2⟩, h3⟩ := h
    subst h1
    exact ⟨me_cmp c (ha c hc e h2).1 (hb c hc e' h3).1 (chk_plain h3), fun _ => mt_cmp c (ha c hc e h2).1 (hb c hc e' h3).1 (chk_plain h3)⟩
  | _ => exact (Bool.false_ne_true h).elim
theorem se_cmp2 {o o2 : CmpOp} {a b d : CE} (ha : SE G a) (hb : SE G b) (hd : SE G d) : SE G (.cmp2 o o2 a b d) := by
  intro X W k af calm c hc e h
  cases e with
  | Compare e os es p =>
    rcases os with _ | ⟨p1, _ | ⟨p2, _ | ⟨p3, os⟩⟩⟩ <;> rcases es with _ | ⟨e1, _ | ⟨e2, _ | ⟨e3, es⟩⟩⟩ <;> try first | exact (Bool.false_ne_true h).elim | (simp [chkE] at h; done)
    simp only [chkE, Bool.and_eq_true, decide_eq_true_eq] at h
    obtain ⟨⟨⟨⟨h1, h2⟩, h3⟩, h4⟩, h5⟩ := h
    subst h1 h2
    exact ⟨me_chain c (ha c hc e h3).1 (hb c hc e1 h4).1 (hd c hc e2 h5).1 (chk_plain h5), fun _ => mt_chain c (ha c hc e h3).1 (hb c hc e1 h4).1 (hd c hc e2 h5).1 (chk_plain h5)⟩
  | _ => exact (Bool.false_ne_true h).elim
theorem se_bop {o : BoolOp} {es : CEs} (ha : SL G es) : SE G (.bop o es) := by
  intro X W k af calm c hc e h
  cases e with
  | BoolOp o' es' p =>
    simp only [chkE, Bool.and_eq_true, decide_eq_true_eq] at h
    obtain ⟨⟨⟨h1, h2⟩, h3⟩, h4⟩ := h
    subst h1
    have hne : es' ≠ [] := fun z => by subst z; cases h3
    obtain ⟨q1, q2, q3, q4⟩ := (ha c hc es' h4).2.1 h2 hne p
    cases o with
    | And => exact ⟨q3, fun _ => q1.pt.imp fun σ H Q z => tm_bl z⟩
    | Or => exact ⟨q4, fun _ => q2.pt.imp fun σ H Q z => tm_bl z⟩
  | _ => exact (Bool.false_ne_true h).elim
theorem se_nott {a : CE} (ha : SE G a) : SE G (.nott a) := by
  intro X W k af calm c hc e h
  cases e with
  | UnaryOp u e p =>
    cases u with
    | Not =>
      simp only [chkE, Bool.and_eq_true] at h
      have q := (ha c hc e h.2).2 h.1
      exact ⟨me_not (ha c hc e h.2).1, fun _ => mt_not q⟩
    | _ => exact (Bool.false_ne_true h).elim
  | _ => exact (Bool.false_ne_true h).elim
theorem se_ifx {t a b : CE} (ht : SE G t) (ha : SE G a) (hb : SE G b) : SE G (.ifx t a b) := by
  intro X W k af calm c hc e h
  cases e with
  | IfExp e1 e2 e3 p =>
    simp only [chkE, Bool.and_eq_true] at h
    obtain ⟨⟨⟨h1, h2⟩, h3⟩, h4⟩ := h
    exact ⟨me_if ((ht c hc e1 h2).2 h1) (ha c hc e2 h3).1 (hb c hc e3 h4).1, fun z => nomatch z⟩
  | _ => exact (Bool.false_ne_true h).elim
theorem se_tup {es : CEs} (ha : SL G es) : SE G (.tup es) := by
  intro X W k af calm c hc e h
  cases e with
  | Tuple es' n p => exact both (me_tup (ha c hc es' h).1) rfl
  | _ => exact (Bool.false_ne_true h).elim
theorem se_lst {mu : Bool} {es : CEs} (ha : SL G es) : SE G (.lst mu es) := by
  intro X W k af calm c hc e h
  cases e with
  | List es' p => exact both (me_lst (ha c hc es' h).1) rfl
  | _ => exact (Bool.false_ne_true h).elim
theorem se_dic {mu : Bool} {ps : CPs} (ha : SP G ps) : SE G (.dic mu ps) := by
  intro X W k af calm c hc e h
  cases e with
  | Dict ks vs p =>
    simp only [chkE, Bool.and_eq_true, decide_eq_true_eq] at h
    obtain ⟨q1, q2, q3⟩ := ha c hc ks vs h.2
    by_cases hk : ks = []
    · subst hk
      cases vs with
      | nil =>
        cases ps with
        | nil => exact both me_dic0 rfl
        | cons _ _ _ => have h := h.2; simp [chkP] at h
      | cons _ _ => cases q3
    · exact both (me_dic (q1 p) q2 q3 hk h.1) rfl
  | _ => exact (Bool.false_ne_true h).elim
theorem se_idx {a b : CE} (ha : SE G a) (hb : SE G b) : SE G (.idx a b) := by
  intro X W k af calm c hc e h
  cases e with
  | Subscript e e' p =>
    simp only [chkE, Bool.and_eq_true] at h
    exact both (me_idx c (ha c hc e h.1).1 (hb c hc e' h.2).1 (chk_plain h.2)) rfl
  | _ => exact (Bool.false_ne_true h).elim
theorem se_sli {a : CE} {lo hi : CO} (ha : SE G a) (hl : SO G lo) (hh : SO G hi) : SE G (.sli a lo hi) := by
  intro X W k af calm c hc e h
  cases e with
  | Subscript e e' p =>
    cases e' with
    | Slice l u st p2 =>
      cases st with
      | none =>
        simp only [chkE, Bool.and_eq_true] at h
        exact both (me_sli (ha c hc e h.1.1).1 (hl c hc l h.1.2) (hh c hc u h.2)) rfl
      | some _ => exact (Bool.false_ne_true h).elim
    | _ => exact (Bool.false_ne_true h).elim
  | _ => exact (Bool.false_ne_true h).elim
theorem se_rev {a : CE} (ha : SE G a) : SE G (.rev a) := by
  intro X W k af calm c hc e h
  cases e with
  | Subscript e e' p =>
    cases e' with
    | Slice l u st p2 =>
      cases l <;> cases u <;> cases st <;> try first | exact (Bool.false_ne_true h).elim | (simp [chkE] at h; done)
      rename_i st
      cases st with
      | UnaryOp op z p3 =>
        cases op <;> try first | exact (Bool.false_ne_true h).elim | (simp [chkE] at h; done)
        cases z with
        | Constant v n p4 =>
          cases v with
          | int j =>
            simp only [chkE, Bool.and_eq_true, decide_eq_true_eq] at h
            obtain ⟨h1, h2⟩ := h
            subst h1
            exact both (me_rev (ha c hc e h2).1) rfl
          | _ => exact (Bool.false_ne_true h).elim
        | _ => exact (Bool.false_ne_true h).elim
      | _ => exact (Bool.false_ne_true h).elim
    | _ => exact (Bool.false_ne_true h).elim
  | _ => exact (Bool.false_ne_true h).elim
theorem se_call {f : Str} {es : CEs} (ha : SL G es) : SE G (.call f es) := by
  intro X W k af calm c hc e h
  cases e with
  | Call fn es' kw p =>
    cases fn with
    | Name y py =>
      cases kw with
      | nil =>
        simp only [chkE, Bool.and_eq_true, decide_eq_true_eq] at h
        obtain ⟨⟨⟨⟨h1, h2⟩, h3⟩, h4⟩, h5⟩ := h
        subst h2
        have q := (ha c hc es' h5).1
        cases es' with
        | nil =>
          cases es with
          | nil => exact both (me_call0 c (hc h1) (gl_of h3) (not_t h4)) rfl
          | cons _ _ => simp [chkL] at h5
        | cons e1 es1 =>
          cases es with
          | nil => simp [chkL] at h5
          | cons a as =>
            have h6 := h5
            simp only [chkL, Bool.and_eq_true] at h6
            exact both (me_call c (hc h1) (gl_of h3) (not_t h4) q (chk_plain h6.1) (back_any (chkL_star h6.2))) rfl
      | cons _ _ => exact (Bool.false_ne_true h).elim
    | _ => exact (Bool.false_ne_true h).elim
  | _ => exact (Bool.false_ne_true h).elim
theorem se_blt {f : Bi} {es : CEs} (ha : SL G es) : SE G (.blt f es) := by
  intro X W k af calm c hc e h
  cases e with
  | Call fn es' kw p =>
    cases fn with
    | Name y py =>
      cases kw with
      | nil =>
        simp only [chkE, Bool.and_eq_true, decide_eq_true_eq] at h
        obtain ⟨⟨⟨⟨h1, h2⟩, h3⟩, h4⟩, h5⟩ := h
        subst h2
        have q := (ha c hc es' h5).1
        have hcc : ∀ b : Bool, (calm || b) = true → (X.calm || b) = true := fun b hb => by
          cases calm with
          | true => rw [hc rfl]; rfl
          | false =>
            rw [Bool.false_or] at hb
            rw [hb, Bool.or_true]
        cases es' with
        | nil => cases h4
        | cons e1 es1 =>
          cases es with
          | nil => simp [chkL] at h5
          | cons a as =>
            have h6 := h5
            simp only [chkL, Bool.and_eq_true] at h6
            exact both (me_blt c (hcc _ h1) (gl_of h3) q (chk_plain h6.1) (back_any (chkL_star h6.2))) rfl
      | cons _ _ => exact (Bool.false_ne_true h).elim
    | _ => exact (Bool.false_ne_true h).elim
  | _ => exact (Bool.false_ne_true h).elim
theorem se_lof {mu : Bool} {a : CE} (ha : SE G a) : SE G (.lof mu a) := by
  intro X W k af calm c hc e h
  cases e with
  | Call fn es' kw p =>
    cases fn with
    | Name y py =>
      rcases es' with _ | ⟨e1, _ | ⟨e2, es⟩⟩ <;> cases kw <;> try first | exact (Bool.false_ne_true h).elim | (simp [chkE] at h; done)
      simp only [chkE, Bool.and_eq_true, decide_eq_true_eq] at h
      obtain ⟨⟨h1, h2⟩, h3⟩ := h
      subst h1
      exact both (me_lof c (gl_of h2) (ha c hc e1 h3).1 (chk_plain h3)) rfl
    | _ => exact (Bool.false_ne_true h).elim
  | _ => exact (Bool.false_ne_true h).elim
theorem se_srs {a : CE} (ha : SE G a) : SE G (.srs a) := by
  intro X W k af calm c hc e h
  cases e with
  | Call fn es' kw p =>
    cases fn with
    | Name y py =>
      rcases es' with _ | ⟨e1, _ | ⟨e2, es⟩⟩ <;> cases kw <;> try first | exact (Bool.false_ne_true h).elim | (simp [chkE] at h; done)
      cases e1 with
      | Call fn2 es2 kw2 p2 =>
        cases fn2 with
        | Name z pz =>
          rcases es2 with _ | ⟨e1, _ | ⟨e2, es⟩⟩ <;> cases kw2 <;> try first | exact (Bool.false_ne_true h).elim | (simp [chkE] at h; done)
          simp only [chkE, Bool.and_eq_true, decide_eq_true_eq] at h
          obtain ⟨⟨⟨⟨⟨h1, h2⟩, h3⟩, h4⟩, h5⟩, h6⟩ := h
          subst h2 h4
          exact both (me_srs c (hc h1) (gl_of h3) (gl_of h5) (ha c hc e1 h6).1 (chk_plain h6)) rfl
        | _ => exact (Bool.false_ne_true h).elim
      | _ => exact (Bool.false_ne_true h).elim
    | _ => exact (Bool.false_ne_true h).elim
  | _ => exact (Bool.false_ne_true h).elim
theorem me_isE (c : CK X W G k true) {i : Nat} {n x : Str} {p pn pz pos : Pos} (hg : Gl X "isinstance") (hN : X.N[i]? = some n) (hv : Vis X.env.scope n) (hd : (n == ("__debug__" : Str)) = false) (hcd : (n == ("__classdict__" : Str)) = false) :
    PE X (.Call (.Name "isinstance" p) [.Name n pn, .Name x pz] [] pos) (Tm X.K W (RD X.K) (evalE G (.isE i n x))) := by
  have hb : bootBuiltins "isinstance" = some (.builtin "isinstance") := by decide +kernel
  have hm : X.mg "isinstance" = none := c.g.blt _ (by decide +kernel)
  by_cases hx : ∃ b, G.ise x = some b
  · obtain ⟨b, hx⟩ := hx
    obtain ⟨a, cv, ha, hc, hcall⟩ := c.ise rfl x b hx
    refine (pe_callB hcall hg hm hb (pa_cons (pe_var hN hv hd hcd) (pa_cons (hc pz) pa_nil rfl) rfl) (by decide +kernel) (by decide +kernel) rfl rfl).imp fun σ H Q ⟨φ, F, en, m, mr, er, q⟩ => ?_
    have q : Pst X.K W (RD X.K) σ φ F H (match en[i]? with
      | some (some .exn) => retO ((G.ise x).map .bl) m
      | _ => .stuck) Q := q
    split at q
    · rename_i he
      obtain ⟨v, h1, h2⟩ := er.val i _ he
      rw [hx] at q
      cases h2 with
      | exn h3 =>
        rw [ha] at h3
        cases h3
        exact ⟨_, h1, rfl, q.okQ mr (.bl b)⟩
    · exact q.elim
  · refine PE.imp (t := fun _ _ _ => False) ⟨fun _ _ _ _ _ _ h => h.elim⟩ fun σ H Q ⟨φ, F, en, m, mr, er, q⟩ => ?_
    have q : Pst X.K W (RD X.K) σ φ F H (match en[i]? with
      | some (some .exn) => retO ((G.ise x).map .bl) m
      | _ => .stuck) Q := q
    split at q
    · cases h : G.ise x with
      | none => rw [h] at q; exact q
      | some b => exact hx ⟨b, h⟩
    · exact q
theorem se_isE (i : Nat) (n x : Str) : SE G (.isE i n x) := by
  intro X W k af calm c hc e h
  cases e with
  | Call fn es' kw p =>
    cases fn with
    | Name y py =>
      rcases es' with _ | ⟨e1, _ | ⟨e2, _ | ⟨e3, es⟩⟩⟩ <;> cases kw <;> try first | exact (Bool.false_ne_true h).elim | (simp [chkE] at h; done)
      cases e1 with
      | Name n' pn =>
        cases e2 with
        | Name x' pz =>
          simp only [chkE, Bool.and_eq_true, decide_eq_true_eq] at h
          obtain ⟨⟨⟨⟨⟨⟨⟨⟨h1, h2⟩, h3⟩, h4⟩, h5⟩, h6⟩, h7⟩, h8⟩, h9⟩ := h
          subst h1 h2 h4 h9
          exact both (me_isE c (gl_of h3) h5 (vis_of h6) (not_t h7) (not_t h8)) rfl
        | _ => exact (Bool.false_ne_true h).elim
      | _ => exact (Bool.false_ne_true h).elim
    | _ => exact (Bool.false_ne_true h).elim
  | _ => exact (Bool.false_ne_true h).elim
theorem noPs_eq {ps : Arguments} (h : noPs ps = true) : ps = ⟨[], [], none, [], [], none, []⟩ := by
  unfold noPs at h
  split at h
  · rfl
  · cases h
theorem ps_neverE {X : Cx} {e : Expr} : PE X e (fun _ _ _ => False) := ⟨fun _ _ _ _ _ _ h => h.elim⟩
theorem se_kin {b : CE} (hb : SE G b) : SE G (.kin b) := by
  intro X W k af calm c hc e h
  cases e with
  | Call fn es' kw p =>
    cases fn with
    | Name y py =>
      rcases es' with _ | ⟨e1, _ | ⟨e2, es⟩⟩ <;> cases kw <;> try first | exact (Bool.false_ne_true h).elim | (simp [chkE] at h; done)
      cases e1 with
      | Lambda ps e scope lp =>
        have h : (af && calm && decide (y = "_law_kind") && glB X.env.scope y && noPs ps && LamX.lamSB X.env.scope scope && chkE X.N scope false true b e) = true := by
          simpa [chkE] using h
        simp only [Bool.and_eq_true, decide_eq_true_eq] at h
        obtain ⟨⟨⟨⟨⟨⟨h1, h2⟩, h3⟩, h4⟩, h5⟩, h6⟩, h7⟩ := h
        have e5 := noPs_eq h5
        subst h1 h2 h3 e5
        by_cases hk : G.kin = true
        · obtain ⟨⟨j, hj, gj⟩, kd, c1, P, TB, hcode, hmT, hu⟩ := c.kin rfl hk
          obtain ⟨a, g, pg, bg, sg, dV, kV, doc, pm, cdv, ct, oc, an, od, osl, Ng, k1, k2, k3, k4, k5, k6, k7, k8, k9, k10, k11⟩ := kd.ex
          subst hj
          have q := LamX.pe_lamcall (X := X) (T := WW.T) (k := j + 1) (t := fun E => Tm X.K (fun cls d _ H => E cls d H) (RD X.K) (evalE G b)) (p := py) (lpos := lp) (pos := p) (scope := scope) (body := e) (params := ⟨[], [], none, [], [], none, []⟩)
            (gl_of h4) k1 k2 k3 k4 k5 k6 k7 k8 (k11 X _ rfl rfl rfl rfl rfl (by have := (c.room (hc rfl)).un; omega)) TB hcode hmT hu (c.room (hc rfl)) (LamX.lamS_by h6) rfl (fun _ _ _ _ _ => rfl) (fun A outer s H E f c' hr => ?_) rfl k9 k10
          · exact both (q.imp fun σ H Q ⟨φ, F, en, m, mr, er, z⟩ => ⟨mr.tab, fun H1 eN T1 => by
              have z : Pst X.K W (RD X.K) σ φ F H (if G.kin = true then kinD m.length (evalE G b en m) else .stuck) Q := z
              rw [if_pos hk] at z
              obtain ⟨m1, s1⟩ := mr.lam eN T1
              exact ⟨φ, F, en, m, m1, er, kin_tell m1 (z.step s1)⟩⟩) rfl
          · have c2 : CK (LamX.lamCx X A outer s H E scope f c') (fun cls d _ H => E cls d H) G j false :=
              ⟨gj, by have := hr.un; show (A.deeper _).units + 65 < cLine; omega, fun _ => hr, takes_of rfl rfl rfl rfl, c.nd, (fun h => nomatch h), (fun h => nomatch h), (fun h => nomatch h), fun h => nomatch h⟩
            exact (hb c2 (fun _ => rfl) e h7).1
        · exact both (ps_neverE.imp fun σ H Q ⟨φ, F, en, m, mr, er, z⟩ => by
            have z : Pst X.K W (RD X.K) σ φ F H (if G.kin = true then kinD m.length (evalE G b en m) else .stuck) Q := z
            rw [if_neg hk] at z
            exact z) rfl
      | _ => exact (Bool.false_ne_true h).elim
    | _ => exact (Bool.false_ne_true h).elim
  | _ => exact (Bool.false_ne_true h).elim
theorem se_isi {a : CE} {one : Bool} {cs : List Tn} (ha : SE G a) : SE G (.isi a one cs) := by
  intro X W k af calm c hc e h
  cases one with
  | true =>
    rcases cs with _ | ⟨t, _ | ⟨t2, ts⟩⟩
    · cases e <;> exact (Bool.false_ne_true h).elim
    · cases e with
      | Call fn es' kw p =>
        cases fn with
        | Name y py =>
          rcases es' with _ | ⟨e1, _ | ⟨e2, _ | ⟨e3, es⟩⟩⟩ <;> cases kw <;> try first | exact (Bool.false_ne_true h).elim | (simp [chkE] at h; done)
          cases e2 with
          | Name z pz =>
            simp only [chkE, Bool.and_eq_true, decide_eq_true_eq] at h
            obtain ⟨⟨⟨⟨⟨h1, h2⟩, h3⟩, h4⟩, h5⟩, h6⟩ := h
            subst h1
            exact both (me_isi1 c (gl_of h2) (ha c hc e1 h6).1 (chk_plain h6) h3 h4 (gl_of h5)) rfl
          | _ => exact (Bool.false_ne_true h).elim
        | _ => exact (Bool.false_ne_true h).elim
      | _ => exact (Bool.false_ne_true h).elim
    · cases e <;> exact (Bool.false_ne_true h).elim
  | false =>
    cases e with
    | Call fn es' kw p =>
      cases fn with
      | Name y py =>
        rcases es' with _ | ⟨e1, _ | ⟨e2, _ | ⟨e3, es⟩⟩⟩ <;> cases kw <;> try first | exact (Bool.false_ne_true h).elim | (simp [chkE] at h; done)
        cases e2 with
        | Tuple es2 n2 pz =>
          simp only [chkE, Bool.and_eq_true, decide_eq_true_eq] at h
          obtain ⟨⟨⟨⟨h1, h2⟩, h3⟩, h4⟩, h5⟩ := h
          subst h1
          exact both (me_isiT c (gl_of h2) (ha c hc e1 h5).1 (chk_plain h5) h3 h4) rfl
        | _ => exact (Bool.false_ne_true h).elim
      | _ => exact (Bool.false_ne_true h).elim
    | _ => exact (Bool.false_ne_true h).elim
theorem se_mth {o : CE} {n : Me} {es : CEs} (ho : SE G o) (ha : SL G es) : SE G (.mth o n es) := by
  intro X W k af calm c hc e h
  cases e with
  | Call fn es' kw p =>
    cases fn with
    | Attribute e1 y apos =>
      cases kw with
      | nil =>
        simp only [chkE, Bool.and_eq_true, decide_eq_true_eq] at h
        obtain ⟨⟨⟨⟨⟨⟨h1, h2⟩, h3⟩, h4⟩, h5⟩, h6⟩, h7⟩ := h
        subst h1
        have q := (ha c hc es' h7).1
        cases es' with
        | nil =>
          have h2 : (n = .pop ∨ n = .clr) ∨ n = .rvs := by simpa using h2
          cases es with
          | nil =>
            rcases h2 with (h2 | h2) | h2 <;> subst h2
            · exact both (me_pop0 (ho c hc e1 h6).1 (not_t h3) h4) rfl
            · exact both (me_clr0 (ho c hc e1 h6).1 (not_t h3) h4) rfl
            · exact both (me_rvs0 (ho c hc e1 h6).1 (not_t h3) h4) rfl
          | cons _ _ => simp [chkL] at h7
        | cons e2 es2 =>
          cases es with
          | nil => simp [chkL] at h7
          | cons a as =>
            have h8 := h7
            simp only [chkL, Bool.and_eq_true] at h8
            exact both (me_mth c (ho c hc e1 h6).1 (not_t h3) h4 q (chk_plain h8.1) (chkL_star h8.2) h5) rfl
      | cons _ _ => exact (Bool.false_ne_true h).elim
    | _ => exact (Bool.false_ne_true h).elim
  | _ => exact (Bool.false_ne_true h).elim
theorem se_own {o : CE} {C n : Str} {es : CEs} (ho : SE G o) (ha : SL G es) : SE G (.own o C n es) := by
  intro X W k af calm c hc e h
  cases e with
  | Call fn es' kw p =>
    cases fn with
    | Attribute e1 y apos =>
      cases kw with
      | nil =>
        simp only [chkE, Bool.and_eq_true, decide_eq_true_eq] at h
        obtain ⟨⟨⟨⟨⟨⟨h0, h1⟩, h3⟩, h4⟩, h5⟩, h6⟩, h7⟩ := h
        subst h1
        have q := (ha c hc es' h7).1
        cases es' with
        | nil =>
          cases es with
          | nil => exact both (me_own0 c (hc h0) (ho c hc e1 h6).1 (not_t h3) h4) rfl
          | cons _ _ => simp [chkL] at h7
        | cons e2 es2 =>
          cases es with
          | nil => simp [chkL] at h7
          | cons a as =>
            have h8 := h7
            simp only [chkL, Bool.and_eq_true] at h8
            exact both (me_own c (hc h0) (ho c hc e1 h6).1 (not_t h3) h4 q (chk_plain h8.1) (chkL_star h8.2) h5) rfl
      | cons _ _ => exact (Bool.false_ne_true h).elim
    | _ => exact (Bool.false_ne_true h).elim
  | _ => exact (Bool.false_ne_true h).elim
theorem se_att {o : CE} {f : Str} (ho : SE G o) : SE G (.att o f) := by
  intro X W k af calm c hc e h
  cases e with
  | Attribute e1 y p =>
    simp only [chkE, Bool.and_eq_true, decide_eq_true_eq] at h
    obtain ⟨⟨h1, h2⟩, h3⟩ := h
    subst h1
    exact both (me_att c (ho c hc e1 h3).1 (not_t h2)) rfl
  | _ => exact (Bool.false_ne_true h).elim
/-- a comprehension's parts -/
structure LcP (X : Cx) (W : WX) (G : Gx) (elt : CE) (t : CT) (it : CI) (ifs : CEs) (ow : List (Str × Nat)) (e tg iter : Expr) (es : List Expr) (scope : Scope) : Prop where
  calm : X.calm = true
  pi : PI X tg iter (TIm X W G it)
  ok : BlkOk X.N X.env.scope scope ow
  sl : ∀ j ∈ slotsT t, j ∈ ow.map (·.2)
  pg : ∀ (s : Shared) (H : Hp) (C : Addr) (cl : List (Str × Addr)) (fp : List Addr), PG (X.blk s H scope (compEnvC scope cl C X.env) fp) tg (TGm X.K t)
  pt : ∀ (s : Shared) (H : Hp) (C : Addr) (cl : List (Str × Addr)) (fp : List Addr), PTs (X.blk s H scope (compEnvC scope cl C X.env) fp) es (Tm X.K W0 RQ (evalAnd G ifs))
  pe : ∀ (s : Shared) (H : Hp) (C : Addr) (cl : List (Str × Addr)) (fp : List Addr), PE (X.blk s H scope (compEnvC scope cl C X.env) fp) e (Tm X.K W0 (RD X.K) (evalE G elt))
  fold : ∀ x, foldedSetIterable iter X.env x = pure x
theorem lc_parts {elt : CE} {t : CT} {it : CI} {ifs : CEs} {mu : Bool} {ow : List (Str × Nat)} {e tg iter : Expr} {es : List Expr} {scope : Scope} {pos : Pos} (hi : SI G it) (hs : SL G ifs) (he : SE G elt)
    (c : CK X W G k af) (hc : calm = true → X.calm = true) (h : chkE X.N X.env.scope af calm (.lc mu elt t it ifs ow) (.ListComp e [⟨tg, iter, es, 0⟩] scope pos) = true) : LcP X W G elt t it ifs ow e tg iter es scope := by
  simp only [chkE, Bool.and_eq_true, decide_eq_true_eq] at h
  obtain ⟨⟨⟨⟨⟨⟨⟨⟨⟨h1, h2⟩, h3⟩, h4⟩, h5⟩, h6⟩, h7⟩, h8⟩, h9⟩, h10⟩ := h
  have htg : zipB it = true → ∃ elts kk p, tg = .Tuple elts kk p := fun z => by
    rw [z] at h7
    cases t with
    | nam _ _ => cases h7
    | tup xs =>
      cases tg with
      | Tuple elts kk p => exact ⟨elts, kk, p, rfl⟩
      | _ => exact (Bool.false_ne_true h4).elim
  obtain ⟨q1, q2⟩ := hi c hc tg iter h3 htg
  refine ⟨hc h1, q1, blkOk_by h2, fun j hj => ?_, fun s H C cl fp => ?_, fun s H C cl fp => ?_, fun s H C cl fp => ?_, fun x => fold_plain q2 _ x⟩
  · exact of_decide_eq_true (List.all_eq_true.mp h6 j hj)
  · exact mg_of (X := X.blk s H scope (compEnvC scope cl C X.env) fp) (af := false) c.nd (fun z => nomatch z) hc h4
  · exact (hs (X := X.blk s H scope (compEnvC scope cl C X.env) fp) (W := W0) (af := false) (blk_ck c) hc es h9).2.2 h5 h8
  · exact (he (X := X.blk s H scope (compEnvC scope cl C X.env) fp) (W := W0) (af := false) (blk_ck c) hc e h10).1
theorem se_lc {elt : CE} {t : CT} {it : CI} {ifs : CEs} {mu : Bool} {ow : List (Str × Nat)} (hi : SI G it) (hs : SL G ifs) (he : SE G elt) : SE G (.lc mu elt t it ifs ow) := by
  intro X W k af calm c hc e h
  cases e with
  | ListComp e gs scope p =>
    rcases gs with _ | ⟨⟨tg, iter, es, (_ | n) | n⟩, _ | ⟨g2, gs⟩⟩ <;> try first | exact (Bool.false_ne_true h).elim | (simp [chkE] at h; done)
    have q := lc_parts (mu := mu) (pos := p) hi hs he c hc (show chkE X.N X.env.scope af calm (.lc mu elt t it ifs ow) (.ListComp e [⟨tg, iter, es, 0⟩] scope p) = true from h)
    show PE X (.ListComp e [⟨tg, iter, es, 0⟩] scope p) _ ∧ (_ → PT X (.ListComp e [⟨tg, iter, es, 0⟩] scope p) _)
    exact both ((pe_lc q.calm c.nd q.pi q.ok q.pg q.pt q.pe q.fold).imp fun σ H Q z => me_lc (pos := p) q.calm c.nd q.pi q.ok q.sl q.pg q.pt q.pe z) rfl
  | _ => exact (Bool.false_ne_true h).elim
theorem se_newN : SE G .newN := by
  intro X W k af calm c hc e h
  cases e with
  | Dict ks vs p =>
    cases ks with
    | nil =>
      cases vs with
      | nil => exact both (me_newN c) rfl
      | cons _ _ => exact (Bool.false_ne_true h).elim
    | cons _ _ => exact (Bool.false_ne_true h).elim
  | _ => exact (Bool.false_ne_true h).elim
theorem se_x1 {o : X1} {a : CE} (ha : SE G a) : SE G (.x1 o a) := by
  intro X W k af calm c hc e h
  cases o with
  | lenN =>
    cases e with
    | Call fn es' kw p =>
      cases fn with
      | Name y py =>
        rcases es' with _ | ⟨e1, _ | ⟨e2, es⟩⟩ <;> cases kw <;> try first | exact (Bool.false_ne_true h).elim | (simp [chkE] at h; done)
        simp only [chkE, Bool.and_eq_true, decide_eq_true_eq] at h
        obtain ⟨⟨h1, h2⟩, h3⟩ := h
        subst h1
        exact both (me_lenN c (gl_of h2) (ha c hc e1 h3).1 (chk_plain h3)) rfl
      | _ => exact (Bool.false_ne_true h).elim
    | _ => exact (Bool.false_ne_true h).elim
  | srl =>
    cases e with
    | Call fn es' kw p =>
      cases fn with
      | Name y py =>
        rcases es' with _ | ⟨e1, _ | ⟨e2, es⟩⟩ <;> cases kw <;> try first | exact (Bool.false_ne_true h).elim | (simp [chkE] at h; done)
        cases e1 with
        | Call fn2 es2 kw2 p2 =>
          cases fn2 with
          | Name z pz =>
            rcases es2 with _ | ⟨e1, _ | ⟨e2, es⟩⟩ <;> cases kw2 <;> try first | exact (Bool.false_ne_true h).elim | (simp [chkE] at h; done)
            simp only [chkE, Bool.and_eq_true, decide_eq_true_eq] at h
            obtain ⟨⟨⟨⟨⟨h1, h2⟩, h3⟩, h4⟩, h5⟩, h6⟩ := h
            subst h2 h4
            exact both (me_srl c (hc h1) (gl_of h3) (gl_of h5) (ha c hc e1 h6).1 (chk_plain h6)) rfl
          | _ => exact (Bool.false_ne_true h).elim
        | _ => exact (Bool.false_ne_true h).elim
      | _ => exact (Bool.false_ne_true h).elim
    | _ => exact (Bool.false_ne_true h).elim
  | rngL =>
    cases e with
    | Call fn es' kw p =>
      cases fn with
      | Name y py =>
        rcases es' with _ | ⟨e1, _ | ⟨e2, es⟩⟩ <;> cases kw <;> try first | exact (Bool.false_ne_true h).elim | (simp [chkE] at h; done)
        cases e1 with
        | Call fn2 es2 kw2 p2 =>
          cases fn2 with
          | Name z pz =>
            rcases es2 with _ | ⟨e1, _ | ⟨e2, es⟩⟩ <;> cases kw2 <;> try first | exact (Bool.false_ne_true h).elim | (simp [chkE] at h; done)
            simp only [chkE, Bool.and_eq_true, decide_eq_true_eq] at h
            obtain ⟨⟨⟨⟨⟨h1, h2⟩, h3⟩, h4⟩, h5⟩, h6⟩ := h
            subst h2 h4
            exact both (me_rngL c (hc h1) (gl_of h3) (gl_of h5) (ha c hc e1 h6).1 (chk_plain h6)) rfl
          | _ => exact (Bool.false_ne_true h).elim
        | _ => exact (Bool.false_ne_true h).elim
      | _ => exact (Bool.false_ne_true h).elim
    | _ => exact (Bool.false_ne_true h).elim
  | soN =>
    cases e with
    | Call fn es' kw p =>
      cases fn with
      | Name y py =>
        rcases es' with _ | ⟨e1, _ | ⟨e2, es⟩⟩ <;> cases kw <;> try first | exact (Bool.false_ne_true h).elim | (simp [chkE] at h; done)
        simp only [chkE, Bool.and_eq_true, decide_eq_true_eq] at h
        obtain ⟨⟨⟨h0, h1⟩, h2⟩, h3⟩ := h
        subst h1
        exact both (me_soN c (hc h0) (gl_of h2) (ha c hc e1 h3).1 (chk_plain h3)) rfl
      | _ => exact (Bool.false_ne_true h).elim
    | _ => exact (Bool.false_ne_true h).elim
  | srp =>
    cases e with
    | Call fn es' kw p =>
      cases fn with
      | Name y py =>
        rcases es' with _ | ⟨e1, _ | ⟨e2, es⟩⟩ <;> cases kw <;> try first | exact (Bool.false_ne_true h).elim | (simp [chkE] at h; done)
        cases e1 with
        | Call fn2 es2 kw2 p2 =>
          cases fn2 with
          | Name z pz =>
            rcases es2 with _ | ⟨e1, _ | ⟨e2, es⟩⟩ <;> cases kw2 <;> try first | exact (Bool.false_ne_true h).elim | (simp [chkE] at h; done)
            simp only [chkE, Bool.and_eq_true, decide_eq_true_eq] at h
            obtain ⟨⟨⟨⟨⟨h1, h2⟩, h3⟩, h4⟩, h5⟩, h6⟩ := h
            subst h2 h4
            exact both (me_srp c (hc h1) (gl_of h3) (gl_of h5) (ha c hc e1 h6).1 (chk_plain h6)) rfl
          | _ => exact (Bool.false_ne_true h).elim
        | _ => exact (Bool.false_ne_true h).elim
      | _ => exact (Bool.false_ne_true h).elim
    | _ => exact (Bool.false_ne_true h).elim
  | sor =>
    cases e with
    | Call fn es' kw p =>
      cases fn with
      | Name y py =>
        rcases es' with _ | ⟨e1, _ | ⟨e2, es⟩⟩ <;> cases kw <;> try first | exact (Bool.false_ne_true h).elim | (simp [chkE] at h; done)
        simp only [chkE, Bool.and_eq_true, decide_eq_true_eq] at h
        obtain ⟨⟨h1, h2⟩, h3⟩ := h
        subst h1
        exact both (me_sor c (gl_of h2) (ha c hc e1 h3).1 (chk_plain h3)) rfl
      | _ => exact (Bool.false_ne_true h).elim
    | _ => exact (Bool.false_ne_true h).elim
theorem se_x2 {o : X2} {a b : CE} (ha : SE G a) (hb : SE G b) : SE G (.x2 o a b) := by
  intro X W k af calm c hc e h
  cases o with
  | inN =>
    cases e with
    | Compare e os es p =>
      rcases os with _ | ⟨o', _ | ⟨o2, os⟩⟩ <;> rcases es with _ | ⟨e', _ | ⟨e2, es⟩⟩ <;> try first | exact (Bool.false_ne_true h).elim | (simp [chkE] at h; done)
      simp only [chkE, Bool.and_eq_true, decide_eq_true_eq] at h
      obtain ⟨⟨h1, h2⟩, h3⟩ := h
      subst h1
      exact ⟨me_inN c (ha c hc e h2).1 (hb c hc e' h3).1 (chk_plain h3), fun _ => mt_inN c (ha c hc e h2).1 (hb c hc e' h3).1 (chk_plain h3)⟩
    | _ => exact (Bool.false_ne_true h).elim
  | ninN =>
    cases e with
    | Compare e os es p =>
      rcases os with _ | ⟨o', _ | ⟨o2, os⟩⟩ <;> rcases es with _ | ⟨e', _ | ⟨e2, es⟩⟩ <;> try first | exact (Bool.false_ne_true h).elim | (simp [chkE] at h; done)
      simp only [chkE, Bool.and_eq_true, decide_eq_true_eq] at h
      obtain ⟨⟨h1, h2⟩, h3⟩ := h
      subst h1
      exact ⟨me_ninN c (ha c hc e h2).1 (hb c hc e' h3).1 (chk_plain h3), fun _ => mt_ninN c (ha c hc e h2).1 (hb c hc e' h3).1 (chk_plain h3)⟩
    | _ => exact (Bool.false_ne_true h).elim
  | addM =>
    cases e with
    | BinOp e o' e' p =>
      simp only [chkE, Bool.and_eq_true, decide_eq_true_eq] at h
      obtain ⟨⟨h1, h2⟩, h3⟩ := h
      subst h1
      exact both ((pe_op op_addM (ha c hc e h2).1 (hb c hc e' h3).1).imp fun _ _ _ h => tm_op h) rfl
    | _ => exact (Bool.false_ne_true h).elim
  | mulM =>
    cases e with
    | BinOp e o' e' p =>
      simp only [chkE, Bool.and_eq_true, decide_eq_true_eq] at h
      obtain ⟨⟨h1, h2⟩, h3⟩ := h
      subst h1
      exact both ((pe_op op_mulM (ha c hc e h2).1 (hb c hc e' h3).1).imp fun _ _ _ h => tm_op h) rfl
    | _ => exact (Bool.false_ne_true h).elim
  | dispN =>
    cases e with
    | Dict ks vs p =>
      rcases ks with _ | ⟨_ | e, _ | ⟨k2, ks⟩⟩ <;> rcases vs with _ | ⟨e', _ | ⟨v2, vs⟩⟩ <;> try first | exact (Bool.false_ne_true h).elim | (simp [chkE] at h; done)
      simp only [chkE, Bool.and_eq_true] at h
      exact both (me_dispN c (ha c hc e h.1).1 (hb c hc e' h.2).1) rfl
    | _ => exact (Bool.false_ne_true h).elim
  | rngL2 =>
    cases e with
    | Call fn es' kw p =>
      cases fn with
      | Name y py =>
        rcases es' with _ | ⟨e1, _ | ⟨e2, es⟩⟩ <;> cases kw <;> try first | exact (Bool.false_ne_true h).elim | (simp [chkE] at h; done)
        cases e1 with
        | Call fn2 es2 kw2 p2 =>
          cases fn2 with
          | Name z pz =>
            rcases es2 with _ | ⟨e1, _ | ⟨e2, _ | ⟨e3, es⟩⟩⟩ <;> cases kw2 <;> try first | exact (Bool.false_ne_true h).elim | (simp [chkE] at h; done)
            simp only [chkE, Bool.and_eq_true, decide_eq_true_eq] at h
            obtain ⟨⟨⟨⟨⟨⟨h1, h2⟩, h3⟩, h4⟩, h5⟩, h6⟩, h7⟩ := h
            subst h2 h4
            exact both (me_rngL2 c (hc h1) (gl_of h3) (gl_of h5) (ha c hc e1 h6).1 (hb c hc e2 h7).1 (chk_plain h6) (chk_plain h7)) rfl
          | _ => exact (Bool.false_ne_true h).elim
        | _ => exact (Bool.false_ne_true h).elim
      | _ => exact (Bool.false_ne_true h).elim
    | _ => exact (Bool.false_ne_true h).elim
theorem sl_nil : SL G .nil := by
  intro X W k af calm c hc es h
  cases es with
  | nil => exact ⟨ma_nil, fun _ z => (z rfl).elim, fun _ _ => ⟨(pts_nil (X := X)).run⟩ |> fun p => PTs.imp p fun σ H Q ⟨φ, F, en, m, mr, er, q⟩ => q.okQ mr rfl⟩
  | cons _ _ => simp [chkL] at h
theorem sl_cons {a : CE} {as : CEs} (ha : SE G a) (hs : SL G as) : SL G (.cons a as) := by
  intro X W k af calm c hc es h
  cases es with
  | nil => simp [chkL] at h
  | cons e es =>
    simp only [chkL, Bool.and_eq_true] at h
    obtain ⟨p1, p2⟩ := ha c hc e h.1
    obtain ⟨q1, q2, q3⟩ := hs c hc es h.2
    refine ⟨ma_cons p1 q1 (chk_plain h.1), fun hn _ pos => ?_, fun hl hn => ?_⟩
    · simp only [notIfs, Bool.and_eq_true] at hn
      have pt := p2 hn.1
      cases es with
      | nil =>
        cases as with
        | nil => exact ⟨mw_and1 pt, mw_or1 pt, me_one (fun e m => rfl) p1, me_one (fun e m => rfl) p1⟩
        | cons _ _ => have := h.2; simp [chkL] at this
      | cons e2 es2 =>
        obtain ⟨r1, r2, r3, r4⟩ := q2 hn.2 (fun z => nomatch z) pos
        exact ⟨mw_and pt r1, mw_or pt r2, me_and p1 r3, me_or p1 r4⟩
    · cases es with
      | nil =>
        cases as with
        | nil =>
          simp only [notIfs, Bool.and_eq_true] at hn
          refine (pts_one (p2 hn.1)).imp fun σ H Q ⟨φ, F, en, m, mr, er, q⟩ => ⟨φ, F, en, m, mr, er, ?_⟩
          have q : Pst X.K W RQ σ φ F H ((asB (evalE G a en m)).bind fun b m => if b then Res.ok true m else .ok false m) Q := q
          show Pst X.K W RQ σ φ F H (asB (evalE G a en m)) Q
          cases hh : asB (evalE G a en m) with
          | stuck => rw [hh] at q; exact q.elim
          | exc x m2 => rw [hh] at q; exact q
          | ok b m2 => rw [hh] at q; cases b <;> exact q
        | cons _ _ => have := h.2; simp [chkL] at this
      | cons _ _ => simp at hl
theorem sp_nil : SP G .nil := by
  intro X W k af calm c hc ks vs h
  cases ks <;> cases vs <;> try first | exact (Bool.false_ne_true h).elim | (simp [chkE] at h; done)
  exact ⟨fun pos => pps_nil, rfl, rfl⟩
theorem sp_cons {a b : CE} {ps : CPs} (ha : SE G a) (hb : SE G b) (hs : SP G ps) : SP G (.cons a b ps) := by
  intro X W k af calm c hc ks vs h
  rcases ks with _ | ⟨_ | e, ks⟩ <;> cases vs <;> try first | exact (Bool.false_ne_true h).elim | (simp [chkE] at h; done)
  rename_i e' vs
  simp only [chkP, Bool.and_eq_true] at h
  obtain ⟨q1, q2, q3⟩ := hs c hc ks vs h.2
  exact ⟨fun pos => pps_cons (ha c hc e h.1.1).1 (hb c hc e' h.1.2).1 (q1 pos), by simpa using q2, by simp [q3]⟩
theorem so_no : SO G .no := by
  intro X W k af calm c hc e h
  cases e with
  | none => exact mo_no
  | some _ => exact (Bool.false_ne_true h).elim
theorem so_yes {a : CE} (ha : SE G a) : SO G (.yes a) := by
  intro X W k af calm c hc e h
  cases e with
  | none => exact (Bool.false_ne_true h).elim
  | some e => exact mo_yes (ha c hc e h).1
theorem si_rng1 {a : CE} (ha : SE G a) : SI G (.rng1 a) := by
  intro X W k af calm c hc tg e h _
  cases e with
  | Call fn es' kw p =>
    cases fn with
    | Name y py =>
      rcases es' with _ | ⟨e1, _ | ⟨e2, es⟩⟩ <;> cases kw <;> try first | exact (Bool.false_ne_true h).elim | (simp [chkE] at h; done)
      simp only [chkI, Bool.and_eq_true, decide_eq_true_eq] at h
      obtain ⟨⟨h1, h2⟩, h3⟩ := h
      subst h1
      exact ⟨mi_rng1 c (gl_of h2) (ha c hc e1 h3).1 (chk_plain h3), rfl⟩
    | _ => exact (Bool.false_ne_true h).elim
  | _ => exact (Bool.false_ne_true h).elim
theorem si_rng2 {a b : CE} (ha : SE G a) (hb : SE G b) : SI G (.rng2 a b) := by
  intro X W k af calm c hc tg e h _
  cases e with
  | Call fn es' kw p =>
    cases fn with
    | Name y py =>
      rcases es' with _ | ⟨e1, _ | ⟨e2, _ | ⟨e3, es⟩⟩⟩ <;> cases kw <;> try first | exact (Bool.false_ne_true h).elim | (simp [chkE] at h; done)
      simp only [chkI, Bool.and_eq_true, decide_eq_true_eq] at h
      obtain ⟨⟨⟨h1, h2⟩, h3⟩, h4⟩ := h
      subst h1
      exact ⟨mi_rng2 c (gl_of h2) (ha c hc e1 h3).1 (hb c hc e2 h4).1 (chk_plain h3) (chk_plain h4), rfl⟩
    | _ => exact (Bool.false_ne_true h).elim
  | _ => exact (Bool.false_ne_true h).elim
theorem si_seq {a : CE} (ha : SE G a) : SI G (.seq a) := by
  intro X W k af calm c hc tg e h _
  have h : chkE X.N X.env.scope af calm a e = true := by
    cases e <;> exact h
  exact ⟨mi_seq (ha c hc e h).1, chk_plain h⟩
theorem si_zip {a b : CE} (ha : SE G a) (hb : SE G b) : SI G (.zip a b) := by
  intro X W k af calm c hc tg e h ht
  obtain ⟨elts, kk, tp, rfl⟩ := ht rfl
  cases e with
  | Call fn es' kw p =>
    cases fn with
    | Name y py =>
      rcases es' with _ | ⟨e1, _ | ⟨e2, _ | ⟨e3, es⟩⟩⟩ <;> cases kw <;> try first | exact (Bool.false_ne_true h).elim | (simp [chkE] at h; done)
      simp only [chkI, Bool.and_eq_true, decide_eq_true_eq] at h
      obtain ⟨⟨⟨h1, h2⟩, h3⟩, h4⟩ := h
      subst h1
      exact ⟨mi_zip c (gl_of h2) (ha c hc e1 h3).1 (hb c hc e2 h4).1 (chk_plain h3) (chk_plain h4), rfl⟩
    | _ => exact (Bool.false_ne_true h).elim
  | _ => exact (Bool.false_ne_true h).elim
theorem si_rev {a : CE} (ha : SE G a) : SI G (.rev a) := by
  intro X W k af calm c hc tg e h _
  cases e with
  | Call fn es' kw p =>
    cases fn with
    | Name y py =>
      rcases es' with _ | ⟨e1, _ | ⟨e2, es⟩⟩ <;> cases kw <;> try first | exact (Bool.false_ne_true h).elim | (simp [chkE] at h; done)
      simp only [chkI, Bool.and_eq_true, decide_eq_true_eq] at h
      obtain ⟨⟨h1, h2⟩, h3⟩ := h
      subst h1
      exact ⟨mi_rev c (gl_of h2) (ha c hc e1 h3).1 (chk_plain h3), rfl⟩
    | _ => exact (Bool.false_ne_true h).elim
  | _ => exact (Bool.false_ne_true h).elim
end
section
variable (G : Gx)
mutual
theorem soundE : ∀ ce : CE, SE G ce
  | .cst d => se_cst d
  | .var i x => se_var i x
  | .glb x => se_glb x
  | .bin o a b => se_bin (soundE a) (soundE b)
  | .neg a => se_neg (soundE a)
  | .cmp o a b => se_cmp (soundE a) (soundE b)
  | .cmp2 o p a b c => se_cmp2 (soundE a) (soundE b) (soundE c)
  | .bop o es => se_bop (soundL es)
  | .nott a => se_nott (soundE a)
  | .ifx t a b => se_ifx (soundE t) (soundE a) (soundE b)
  | .tup es => se_tup (soundL es)
  | .lst mu es => se_lst (soundL es)
  | .dic mu ps => se_dic (soundP ps)
  | .idx a i => se_idx (soundE a) (soundE i)
  | .sli a lo hi => se_sli (soundE a) (soundO lo) (soundO hi)
  | .rev a => se_rev (soundE a)
  | .call f es => se_call (soundL es)
  | .blt f es => se_blt (soundL es)
  | .lof mu a => se_lof (soundE a)
  | .srs a => se_srs (soundE a)
  | .isi a one cs => se_isi (soundE a)
  | .mth o n es => se_mth (soundE o) (soundL es)
  | .own o C n es => se_own (soundE o) (soundL es)
  | .att o f => se_att (soundE o)
  | .lc mu elt t it ifs ow => se_lc (soundI it) (soundL ifs) (soundE elt)
  | .x1 o a => se_x1 (soundE a)
  | .x2 o a b => se_x2 (soundE a) (soundE b)
  | .newN => se_newN
  | .kin b => se_kin (soundE b)
  | .isE i n x => se_isE i n x
theorem soundL : ∀ cs : CEs, SL G cs
  | .nil => sl_nil
  | .cons a as => sl_cons (soundE a) (soundL as)
theorem soundP : ∀ ps : CPs, SP G ps
  | .nil => sp_nil
  | .cons a b r => sp_cons (soundE a) (soundE b) (soundP r)
theorem soundO : ∀ o : CO, SO G o
  | .no => so_no
  | .yes a => so_yes (soundE a)
theorem soundI : ∀ it : CI, SI G it
  | .rng1 a => si_rng1 (soundE a)
  | .rng2 a b => si_rng2 (soundE a) (soundE b)
  | .seq a => si_seq (soundE a)
  | .zip a b => si_zip (soundE a) (soundE b)
  | .rev a => si_rev (soundE a)
end
end
end Mi

set_option Elab.async false
set_option linter.all false
set_option maxRecDepth 100000
set_option maxHeartbeats 4000000
/-! MiG: statements. -/
namespace L2
open PySem
section
variable {X : Cx}
theorem PS.imp {e : Stmt} {t t' : TS} (h : PS X e t) (i : ∀ D σ H, t' D σ H → t D σ H) : PS X e t' := ⟨fun pins s σ H D I q => h.run pins s σ H D I (i _ _ _ q)⟩
theorem PSs.imp {e : List Stmt} {t t' : TS} (h : PSs X e t) (i : ∀ D σ H, t' D σ H → t D σ H) : PSs X e t' := ⟨fun pins s σ H D I q => h.run pins s σ H D I (i _ _ _ q)⟩
end
end L2
namespace Mi
open PySem L2
variable [WW]
section
variable (K : PySem.W.Frag) (W : WX)
def Pso (φ : List Addr) (F H : Hp) (r : Out) (D : Ends) : Prop := match r with
  | .stuck => False
  | .nxt e m => ∀ φ' F' H' σ, Stp φ F H φ' F' H' → MR K φ' F' H' m → EnvR K φ' F' e σ → D.nx σ H'
  | .brk e m => ∀ φ' F' H' σ, Stp φ F H φ' F' H' → MR K φ' F' H' m → EnvR K φ' F' e σ → D.bk σ H'
  | .cnt e m => ∀ φ' F' H' σ, Stp φ F H φ' F' H' → MR K φ' F' H' m → EnvR K φ' F' e σ → D.ct σ H'
  | .ret d m => ∀ φ' F' H' v, Stp φ F H φ' F' H' → MR K φ' F' H' m → Rep K φ' F' d v → D.rt v H'
  | .exc x e m => ∀ φ' F' H' c dd σ, Stp φ F H φ' F' H' → MR K φ' F' H' m → EnvR K φ' F' e σ → ExR K φ' F' H' x c dd → W c dd σ H'
def TSm (f : EnvD → Mem → Out) : TS := fun D σ H => ∃ φ F e m, MR K φ F H m ∧ EnvR K φ F e σ ∧ Pso K W φ F H (f e m) D
end
section
variable {K : PySem.W.Frag} {W : WX} {α β : Type} {R : List Addr → Hp → α → β → Prop} {σ : L2.St} {φ φ' : List Addr} {F F' H H' : Hp} {D : Ends}
theorem Pso.step {r : Out} (st : Stp φ F H φ' F' H') (h : Pso K W φ F H r D) : Pso K W φ' F' H' r D := by
  cases r with
  | stuck => exact h
  | nxt e m => exact fun φ2 F2 H2 b s2 => h φ2 F2 H2 b (st.trans s2)
  | brk e m => exact fun φ2 F2 H2 b s2 => h φ2 F2 H2 b (st.trans s2)
  | cnt e m => exact fun φ2 F2 H2 b s2 => h φ2 F2 H2 b (st.trans s2)
  | ret d m => exact fun φ2 F2 H2 b s2 => h φ2 F2 H2 b (st.trans s2)
  | exc x e m => exact fun φ2 F2 H2 c dd σ s2 => h φ2 F2 H2 c dd σ (st.trans s2)
/-- an expression ahead -/
theorem Pso.out {r : Res α} {e : EnvD} {k : α → Mem → Out} {Q1 : β → Hp → Prop} (er : EnvR K φ F e σ) (h : Pso K W φ F H (r.out e k) D)
    (hk : ∀ c m φ1 F1 H1 d, r = .ok c m → Stp φ F H φ1 F1 H1 → MR K φ1 F1 H1 m → R φ1 F1 c d → Pso K W φ1 F1 H1 (k c m) D → Q1 d H1) : Pst K W R σ φ F H r Q1 := by
  cases r with
  | stuck => exact h
  | ok c m => exact fun φ1 F1 H1 d st mr s => hk c m φ1 F1 H1 d rfl st mr s (Pso.step st h)
  | exc x m => exact fun φ1 F1 H1 c dd st mr ex => h φ1 F1 H1 c dd σ st mr (er.mono st.pre st.fx) ex
theorem Pso.nxtQ {e : EnvD} {m : Mem} (h : Pso K W φ F H (.nxt e m) D) (mr : MR K φ F H m) (er : EnvR K φ F e σ) : D.nx σ H := h φ F H σ Stp.refl mr er
/-- behind a turn -/
theorem Pso.turn {o : Out} {k : EnvD → Mem → Out} {N : L2.St → Hp → Prop} (h : Pso K W φ F H (o.turn k) D)
    (hk : ∀ e m φ1 F1 H1 σ1, Stp φ F H φ1 F1 H1 → MR K φ1 F1 H1 m → EnvR K φ1 F1 e σ1 → Pso K W φ1 F1 H1 (k e m) D → N σ1 H1) : Pso K W φ F H o { D with nx := N, ct := N, bk := D.nx } := by
  cases o with
  | stuck => exact h
  | nxt e m => exact fun φ1 F1 H1 σ1 st mr er => hk e m φ1 F1 H1 σ1 st mr er (Pso.step st h)
  | cnt e m => exact fun φ1 F1 H1 σ1 st mr er => hk e m φ1 F1 H1 σ1 st mr er (Pso.step st h)
  | brk e m => exact h
  | ret d m => exact h
  | exc x e m => exact h
/-- one statement behind another -/
theorem Pso.seq {o : Out} {k : EnvD → Mem → Out} {N : L2.St → Hp → Prop} (h : Pso K W φ F H (match o with | .nxt e m => k e m | o => o) D)
    (hk : ∀ e m φ1 F1 H1 σ1, Stp φ F H φ1 F1 H1 → MR K φ1 F1 H1 m → EnvR K φ1 F1 e σ1 → Pso K W φ1 F1 H1 (k e m) D → N σ1 H1) : Pso K W φ F H o { D with nx := N } := by
  cases o with
  | stuck => exact h
  | nxt e m => exact fun φ1 F1 H1 σ1 st mr er => hk e m φ1 F1 H1 σ1 st mr er (Pso.step st h)
  | cnt e m => exact h
  | brk e m => exact h
  | ret d m => exact h
  | exc x e m => exact h
theorem Pso.nxtO {o : Option EnvD} {m : Mem} (h : Pso K W φ F H (nxtO o m) D) : ∃ e, o = some e ∧ Pso K W φ F H (.nxt e m) D := by
  cases o with
  | none => exact h.elim
  | some e => exact ⟨e, rfl, h⟩
end
/-! ### what is seen of a text -/
def lcB : Expr → Bool
  | .ListComp _ _ _ _ => true
  | .SetComp _ _ _ _ => true
  | .DictComp _ _ _ _ _ => true
  | _ => false
theorem sw_plain {e : Expr} {t : Option Expr} {l : Nat} {env : Env} (h : lcB e = false) : swapsWith e t l env = pure false := by
  cases e <;> first | rfl | cases h
theorem sw_tgt {e : Expr} {t : Expr} {l : Nat} {env : Env} (h : (match t with | .Name _ _ => false | _ => true) = true) : swapsWith e (some t) l env = pure false := by
  cases t with
  | Name _ _ => cases h
  | _ => cases e <;> rfl
section
variable {X : Cx} {W : WX} {G : Gx} {k : Nat} {af : Bool}
theorem ms_exp {a : CE} {e : Expr} {pos : Pos} (he : PE X e (Tm X.K W (RD X.K) (evalE G a))) (hl : lcB e = false) : PS X (.Expr e pos) (TSm X.K W (execS G (.exp a))) :=
  (ps_expr he (sw_plain hl)).imp fun D σ H ⟨φ, F, en, m, mr, er, q⟩ => ⟨φ, F, en, m, mr, er, Pso.out er q fun x m1 φ1 F1 H1 v _ s1 mr1 r1 q1 => q1.nxtQ mr1 (er.mono s1.pre s1.fx)⟩
theorem tm_asg {t : CT} {a : CE} {D : Ends} {σ : L2.St} {H : Hp} (h : TSm X.K W (execS G (.asg t a)) D σ H) : Tm X.K W (RD X.K) (evalE G a) σ H fun x H1 => TGm X.K t x σ H1 D.nx := by
  obtain ⟨φ, F, en, m, mr, er, q⟩ := h
  refine ⟨φ, F, en, m, mr, er, Pso.out er q fun x m1 φ1 F1 H1 v _ s1 mr1 r1 q1 => ?_⟩
  obtain ⟨e', he, q2⟩ := q1.nxtO
  exact ⟨φ1, F1, en, m1, x, e', mr1, er.mono s1.pre s1.fx, r1, he, fun σ' er' _ => q2.nxtQ mr1 er'⟩
theorem ms_asg {t : CT} {a : CE} {tg e : Expr} {pos : Pos} (he : PE X e (Tm X.K W (RD X.K) (evalE G a))) (hg : PG X tg (TGm X.K t)) (hs : swapsWith e (some tg) pos.line X.env = pure false) (hw : swappedStores [tg] e X.env = pure none)
    (h1 : (assignEach [tg] X.env).map (·.2) = [assign tg X.env]) : PS X (.Assign [tg] e pos) (TSm X.K W (execS G (.asg t a))) :=
  (ps_asg he hg hs hw h1).imp fun D σ H h => tm_asg h
theorem gname_of {i : Nat} {y : Str} {v : V} {σ : L2.St} {H : Hp} {Q : L2.St → Hp → Prop} (h : TGm X.K (.nam i y) v σ H Q) : gName i v σ H Q := by
  obtain ⟨φ, F, en, m, d, e', mr, er, r, hb, q⟩ := h
  cases hb
  exact q _ (er.set r i) ⟨List.length_set .., fun j hj => List.getElem?_set_ne (fun e => hj (by rw [← e]; exact List.mem_singleton.mpr rfl))⟩
theorem ms_asgLc {i : Nat} {y : Str} {mu : Bool} {elt : CE} {t : CT} {it : CI} {ifs : CEs} {ow : List (Str × Nat)} {e tg iter : Expr} {es : List Expr} {scope : Scope} {py pos spos : Pos} (c : CK X W G k af) (q : LcP X W G elt t it ifs ow e tg iter es scope) (hy : X.N[i]? = some y) (hyl : X.env.scope.names.lookup y = some .local)
    (hk : X.env.scope.kind = .function) (hl : (py.line == pos.line) = true) (ha : (scope.names.any fun (n, k) => n == y && (k == .local || k == .cell)) = false) :
    PS X (.Assign [.Name y py] (.ListComp e [⟨tg, iter, es, 0⟩] scope pos) spos) (TSm X.K W (execS G (.asg (.nam i y) (.lc mu elt t it ifs ow)))) := by
  refine (ps_setLc (i := i) q.calm c.nd hy hyl (sw_true hk hyl hl ha) q.pi q.ok q.pg q.pt q.pe q.fold).imp fun D σ H h => ?_
  have h2 := tm_asg h
  have h3 : Tm X.K W (RD X.K) (evalE G (.lc mu elt t it ifs ow)) σ H fun x H1 => gName i x σ H1 D.nx := by
    obtain ⟨φ, F, en, m, mr, er, q⟩ := h2
    refine ⟨φ, F, en, m, mr, er, ?_⟩
    cases hh : evalE G (.lc mu elt t it ifs ow) en m with
    | stuck => rw [hh] at q; exact q.elim
    | exc x m2 => rw [hh] at q; exact q
    | ok d m2 =>
      rw [hh] at q
      exact fun φ1 F1 H1 v st mr1 r => gname_of (X := X) (q φ1 F1 H1 v st mr1 r)
  exact me_lc (pos := pos) q.calm c.nd q.pi q.ok q.sl q.pg q.pt q.pe h3
/-- o[i] = d -/
def StOf (K : PySem.W.Frag) : TSet := fun o i v H Q => ∃ φ F m x y d m', MR K φ F H m ∧ Rep K φ F x o ∧ Rep K φ F y i ∧ Rep K φ F d v ∧ setItemD x y d m = some m' ∧ ∀ H', Stp φ F H φ F H' → MR K φ F H' m' → Q H'
theorem st_all (hu : X.A.units + 1 < cLine) : PSet X (StOf X.K) := by
  intro pins s σ H o i v ov iv u Q I ro ri rv ⟨φ, F, m, x, y, d, m', mr, rx, ry, rd, hs, q⟩
  unfold setItemD at hs
  cases x with
  | ptr p =>
    simp only at hs
    cases rx with
    | @ptr a p hp =>
      cases e : m[p]? with
      | none => rw [e] at hs; cases hs
      | some cl =>
        rw [e] at hs
        cases cl with
        | lst xs =>
          cases y with
          | int kk =>
            cases ry
            obtain ⟨j, hj, e2⟩ := Option.map_eq_some_iff.mp (show (ixN xs.length kk).map (fun j => m.set p (.lst (xs.set j d))) = some m' from hs)
            subst e2
            obtain ⟨hF, ws, h1, h2⟩ := mr.cell p a _ hp e
            have hw : CellR X.K φ F (upd H a (.lst (ws.set j v))) a (.lst (xs.set j d)) := ⟨_, upd_same, h2.set rd j⟩
            obtain ⟨mr2, st2⟩ := mr.write (c := .lst (xs.set j d)) hp hw
            exact set_list pins s σ H _ _ v ov iv u Q I ro ri rv ⟨a, ws, kk, j, rfl, rfl, h1, by rw [h2.len]; exact hj, q _ st2 mr2⟩
          | _ => cases hs
        | dct kvs =>
          simp only at hs
          cases hk : kD y with
          | none => rw [hk] at hs; cases hs
          | some kk =>
            rw [hk] at hs
            simp only at hs
            split at hs
            · rename_i hl
              cases hs
              have ek := kD_rep hk ry
              subst ek
              obtain ⟨hF, ws, h1, h2⟩ := mr.cell p a _ hp e
              have hw : CellR X.K φ F (upd H a (.dK (putK ws kk v))) a (.dct (putD kvs kk d)) := ⟨_, upd_same, putD_rep rd h2⟩
              obtain ⟨mr2, st2⟩ := mr.write (c := .dct (putD kvs kk d)) hp hw
              exact set_dict hu pins s σ H _ _ v ov iv u Q I ro ri rv ⟨a, _, rfl, DPut.k h1 (by rw [h2.len]; exact line_lt hl), q _ st2 mr2⟩
            · cases hs
        | _ => cases hs
  | _ => cases hs
theorem ms_sub (hu : X.A.units + 65 < cLine) {o i a : CE} {eo ei e : Expr} {p pos : Pos} (ho : PE X eo (Tm X.K W (RD X.K) (evalE G o))) (hi : PE X ei (Tm X.K W (RD X.K) (evalE G i))) (he : PE X e (Tm X.K W (RD X.K) (evalE G a))) (hp : plainE ei = true) :
    PS X (.Assign [.Subscript eo ei p] e pos) (TSm X.K W (execS G (.sub o i a))) := by
  have hg : PG X (.Subscript eo ei p) (gSub (Tm X.K W (RD X.K) (evalE G o)) (Tm X.K W (RD X.K) (evalE G i)) (StOf X.K)) := pg_sub ho hi (st_all (by omega)) (by
    intro v
    cases ei <;> first | rfl | cases hp)
  refine (ps_asg he hg (show swapsWith e (some (.Subscript eo ei p)) pos.line X.env = pure false from sw_tgt rfl) (by cases e <;> rfl) rfl).imp fun D σ H ⟨φ, F, en, m, mr, er, q⟩ => ⟨φ, F, en, m, mr, er, Pso.out er q fun d m1 φ1 F1 H1 v _ s1 mr1 r1 q1 => ?_⟩
  have er1 := er.mono s1.pre s1.fx
  refine ⟨φ1, F1, en, m1, mr1, er1, Pso.out er1 q1 fun x m2 φ2 F2 H2 xv _ s2 mr2 r2 q2 => ?_⟩
  have er2 := er1.mono s2.pre s2.fx
  refine ⟨φ2, F2, en, m2, mr2, er2, Pso.out er2 q2 fun y m3 φ3 F3 H3 yv _ s3 mr3 r3 q3 => ?_⟩
  cases hs : setItemD x y d m3 with
  | none => rw [hs] at q3; exact q3.elim
  | some m4 =>
    rw [hs] at q3
    exact ⟨φ3, F3, m3, x, y, d, m4, mr3, r2.mono s3.pre s3.fx, r3, (r1.mono s2.pre s2.fx).mono s3.pre s3.fx, hs, fun H' st mr' => (Pso.step st q3).nxtQ mr' ((er2.mono s3.pre s3.fx).mono st.pre st.fx)⟩
theorem ms_setN (c : CK X W G k af) {o i a : CE} {eo ei e : Expr} {p pos : Pos} (ho : PE X eo (Tm X.K W (RD X.K) (evalE G o))) (hi : PE X ei (Tm X.K W (RD X.K) (evalE G i))) (he : PE X e (Tm X.K W (RD X.K) (evalE G a))) (hp : plainE ei = true) :
    PS X (.Assign [.Subscript eo ei p] e pos) (TSm X.K W (execS G (.setN o i a))) := by
  have hg : PG X (.Subscript eo ei p) (gSub (Tm X.K W (RD X.K) (evalE G o)) (Tm X.K W (RD X.K) (evalE G i)) (StN X.K)) := pg_sub ho hi (st_nst c.g.ww c.hu) (by
    intro v
    cases ei <;> first | rfl | cases hp)
  refine (ps_asg he hg (show swapsWith e (some (.Subscript eo ei p)) pos.line X.env = pure false from sw_tgt rfl) (by cases e <;> rfl) rfl).imp fun D σ H ⟨φ, F, en, m, mr, er, q⟩ => ⟨φ, F, en, m, mr, er, Pso.out er q fun d m1 φ1 F1 H1 v _ s1 mr1 r1 q1 => ?_⟩
  have er1 := er.mono s1.pre s1.fx
  refine ⟨φ1, F1, en, m1, mr1, er1, Pso.out er1 q1 fun x m2 φ2 F2 H2 xv _ s2 mr2 r2 q2 => ?_⟩
  have er2 := er1.mono s2.pre s2.fx
  refine ⟨φ2, F2, en, m2, mr2, er2, Pso.out er2 q2 fun y m3 φ3 F3 H3 yv _ s3 mr3 r3 q3 => ?_⟩
  cases hs : setItemN x y d m3 with
  | none => rw [hs] at q3; exact q3.elim
  | some m4 =>
    rw [hs] at q3
    exact ⟨φ3, F3, m3, x, y, d, m4, mr3, r2.mono s3.pre s3.fx, r3, (r1.mono s2.pre s2.fx).mono s3.pre s3.fx, hs, fun H' st mr' => (Pso.step st q3).nxtQ mr' ((er2.mono s3.pre s3.fx).mono st.pre st.fx)⟩
theorem RepF.len {K : PySem.W.Frag} {φ : List Addr} {F : Hp} : ∀ {fs : List (Str × Mi.D)} {vs : List (Str × V)}, RepF K φ F fs vs → vs.length = fs.length
  | _, _, .nil => rfl
  | _, _, .cons _ q => by rw [List.length_cons, List.length_cons, RepF.len q]
theorem putF_rep {K : PySem.W.Frag} {φ : List Addr} {F : Hp} {f : Str} {d : D} {v : V} (r : Rep K φ F d v) : ∀ {fs : List (Str × D)} {vs : List (Str × V)}, RepF K φ F fs vs → RepF K φ F (putS f d fs) (putF f v vs)
  | _, _, .nil => .cons r .nil
  | (g, e) :: ds, _, .cons (v := w) (vs := vs) h q => by
    show RepF K φ F (if g = f then (g, d) :: ds else (g, e) :: putS f d ds) (if g = f then (g, v) :: vs else (g, w) :: putF f v vs)
    by_cases hh : g = f
    · rw [if_pos hh, if_pos hh]; exact .cons r q
    · rw [if_neg hh, if_neg hh]; exact .cons h (putF_rep r q)
theorem ms_att (c : CK X W G k af) {o a : CE} {f : Str} {eo e : Expr} {p pos : Pos} (ho : PE X eo (Tm X.K W (RD X.K) (evalE G o))) (he : PE X e (Tm X.K W (RD X.K) (evalE G a))) : PS X (.Assign [.Attribute eo f p] e pos) (TSm X.K W (execS G (.att o f a))) := by
  refine (ps_fld ho he (sw_tgt rfl)).imp fun D σ H ⟨φ, F, en, m, mr, er, q⟩ => ⟨φ, F, en, m, mr, er, Pso.out er q fun d m1 φ1 F1 H1 v _ s1 mr1 r1 q1 => ?_⟩
  have er1 := er.mono s1.pre s1.fx
  refine ⟨φ1, F1, en, m1, mr1, er1, Pso.out er1 q1 fun x m2 φ2 F2 H2 xv _ s2 mr2 r2 q2 => ?_⟩
  have er2 := er1.mono s2.pre s2.fx
  unfold setAttD at q2
  cases x with
  | ptr p =>
    simp only at q2
    cases e1 : m2[p]? with
    | none => rw [e1] at q2; exact q2.elim
    | some cl =>
      rw [e1] at q2
      cases cl with
      | ins C fs =>
        simp only at q2
        by_cases hc : G.fld C f = true ∧ fs.length < 1000
        · rw [if_pos hc] at q2
          cases r2 with
          | @ptr a p hp =>
            obtain ⟨hF, dx, vs, h1, h2⟩ := mr2.cell _ a _ hp e1
            obtain ⟨cl, na⟩ := c.g.fld C f hc.1
            have hw : CellR X.K φ2 F2 (upd H2 a (.ins (He.ga X.K C) dx (putF f v vs))) a (.ins C (putS f d fs)) := ⟨dx, _, upd_same, putF_rep (r1.mono s2.pre s2.fx) h2⟩
            obtain ⟨mr3, st3⟩ := mr2.write (c := .ins C (putS f d fs)) hp hw
            exact ⟨a, _, dx, vs, rfl, h1, cl, na, by rw [h2.len]; exact hc.2, (Pso.step st3 q2).nxtQ mr3 (er2.mono st3.pre st3.fx)⟩
        · rw [if_neg hc] at q2; exact q2.elim
      | _ => exact q2.elim
  | _ => exact q2.elim
theorem ms_par {i j : Nat} {x y : Str} {a b : CE} {e e' : Expr} {px py pt pt2 pos : Pos} {kt k2 : Nat} (c : CK X W G k af) (hc : X.calm = true) (hi : X.N[i]? = some x) (hj : X.N[j]? = some y) (hij : i ≠ j) (hx : X.env.scope.names.lookup x = some .local) (hy : X.env.scope.names.lookup y = some .local)
    (h : PA X [e, e'] (TL X W G (.cons a (.cons b .nil)))) (hw : swappedStores [.Tuple [.Name x px, .Name y py] kt pt] (.Tuple [e, e'] k2 pt2) X.env = pure (some [x, y])) :
    PS X (.Assign [.Tuple [.Name x px, .Name y py] kt pt] (.Tuple [e, e'] k2 pt2) pos) (TSm X.K W (execS G (.par i j x y a b))) := by
  refine (ps_par hc c.nd hi hj hij hx hy h hw rfl).imp fun D σ H ⟨φ, F, en, m, mr, er, q⟩ => ⟨φ, F, en, m, mr, er, ?_⟩
  have q : Pso X.K W φ F H ((evalE G a en m).out en fun u m => (evalE G b en m).out en fun w m => .nxt ((en.set i (some u)).set j (some w)) m) D := q
  show Pst X.K W (RL X.K) σ φ F H ((evalE G a en m).bind fun u m => ((evalE G b en m).bind fun w m => (Res.ok [] m).bind fun vs m => .ok (w :: vs) m).bind fun vs m => .ok (u :: vs) m) _
  cases ha : evalE G a en m with
  | stuck => rw [ha] at q; exact q.elim
  | exc z m2 => rw [ha] at q; exact fun φ1 F1 H1 c dd st mr1 ex => q φ1 F1 H1 c dd σ st mr1 (er.mono st.pre st.fx) ex
  | ok u m2 =>
    rw [ha] at q
    have q : Pso X.K W φ F H ((evalE G b en m2).out en fun w m => .nxt ((en.set i (some u)).set j (some w)) m) D := q
    show Pst X.K W (RL X.K) σ φ F H (((evalE G b en m2).bind fun w m => (Res.ok [] m).bind fun vs m => .ok (w :: vs) m).bind fun vs m => .ok (u :: vs) m) _
    cases hb : evalE G b en m2 with
    | stuck => rw [hb] at q; exact q.elim
    | exc z m3 => rw [hb] at q; exact fun φ1 F1 H1 c dd st mr1 ex => q φ1 F1 H1 c dd σ st mr1 (er.mono st.pre st.fx) ex
    | ok w m3 =>
      rw [hb] at q
      intro φ1 F1 H1 vs st mr1 r
      cases r with
      | cons ru r2 =>
        cases r2 with
        | cons rw2 r3 =>
          cases r3
          exact ⟨_, _, rfl, q φ1 F1 H1 _ st mr1 (((er.mono st.pre st.fx).set ru i).set rw2 j)⟩
theorem ms_ret {a : CE} {e : Expr} {pos : Pos} (he : PE X e (Tm X.K W (RD X.K) (evalE G a))) : PS X (.Return (some e) pos) (TSm X.K W (execS G (.ret a))) :=
  (ps_ret he).imp fun D σ H ⟨φ, F, en, m, mr, er, q⟩ => ⟨φ, F, en, m, mr, er, Pso.out er q fun x m1 φ1 F1 H1 v _ s1 mr1 r1 q1 => q1 φ1 F1 H1 v Stp.refl mr1 r1⟩
theorem ms_retN {pos : Pos} : PS X (.Return none pos) (TSm X.K W (execS G .retN)) :=
  ps_retN.imp fun D σ H ⟨φ, F, en, m, mr, er, q⟩ => q φ F H .non Stp.refl mr .non
theorem ms_pas {pos : Pos} : PS X (.Pass pos) (TSm X.K W (execS G .pas)) :=
  ps_pass.imp fun D σ H ⟨φ, F, en, m, mr, er, q⟩ => q.nxtQ mr er
theorem ms_brk {pos : Pos} : PS X (.Break pos) (TSm X.K W (execS G .brk)) :=
  ps_break.imp fun D σ H ⟨φ, F, en, m, mr, er, q⟩ => q φ F H σ Stp.refl mr er
theorem ms_cnt {pos : Pos} : PS X (.Continue pos) (TSm X.K W (execS G .cnt)) :=
  ps_continue.imp fun D σ H ⟨φ, F, en, m, mr, er, q⟩ => q φ F H σ Stp.refl mr er
theorem ms_ite {t : CE} {a b : CSs} {e : Expr} {sa sb : List Stmt} {pos : Pos} (ht : PT X e (TB X W G t)) (ha : PSs X sa (TSm X.K W (execL G a))) (hb : PSs X sb (TSm X.K W (execL G b))) : PS X (.If e sa sb pos) (TSm X.K W (execS G (.ite t a b))) := by
  refine (ps_if ht ha hb).imp fun D σ H ⟨φ, F, en, m, mr, er, q⟩ => ⟨φ, F, en, m, mr, er, Pso.out er q fun x m1 φ1 F1 H1 v _ s1 mr1 r1 q1 => ?_⟩
  cases r1
  have er1 := er.mono s1.pre s1.fx
  cases x with
  | true => rw [if_pos rfl]; exact ⟨φ1, F1, en, m1, mr1, er1, q1⟩
  | false => rw [if_neg (by decide)]; exact ⟨φ1, F1, en, m1, mr1, er1, q1⟩
theorem mss_nil : PSs X [] (TSm X.K W (execL G .nil)) := pss_nil.imp fun D σ H ⟨φ, F, en, m, mr, er, q⟩ => q.nxtQ mr er
theorem mss_cons {s : CS} {ss : CSs} {st : Stmt} {sts : List Stmt} (h : PS X st (TSm X.K W (execS G s))) (hr : PSs X sts (TSm X.K W (execL G ss))) : PSs X (st :: sts) (TSm X.K W (execL G (.cons s ss))) := by
  refine (pss_cons h hr).imp fun D σ H ⟨φ, F, en, m, mr, er, q⟩ => ⟨φ, F, en, m, mr, er, Pso.seq q fun e1 m1 φ1 F1 H1 σ1 s1 mr1 er1 q1 => ⟨φ1, F1, e1, m1, mr1, er1, q1⟩⟩
theorem ms_whl {t : CE} {b : CSs} {e : Expr} {sb : List Stmt} {pos : Pos} (hp : PassesOwn (model X.prog X.w) X.A X.env X.xe) (ht : PT X e (TB X W G t)) (hb : PSs X sb (TSm X.K W (execL G b))) : PS X (.While e sb [] pos) (TSm X.K W (execS G (.whl t b))) := by
  refine (ps_while hp ht hb).imp fun D σ H ⟨φ, F, en, m, mr, er, q⟩ => ?_
  refine ⟨fun n σ H => ∃ φ F en m, MR X.K φ F H m ∧ EnvR X.K φ F en σ ∧ Pso X.K W φ F H (whileD (fun e m => asB (evalE G t e m)) (fun e m => execL G b e m) n en m) D, ⟨G.fuel, φ, F, en, m, mr, er, q⟩, ?_⟩
  rintro n σ H ⟨φ, F, en, m, mr, er, q⟩
  cases n with
  | zero => exact q.elim
  | succ n =>
    refine ⟨φ, F, en, m, mr, er, ?_⟩
    rw [whileD] at q
    show Pst X.K W RQ σ φ F H (asB (evalE G t en m)) _
    cases hh : asB (evalE G t en m) with
    | stuck => rw [hh] at q; exact q.elim
    | exc x m2 => rw [hh] at q; exact fun φ1 F1 H1 c dd st mr1 ex => q φ1 F1 H1 c dd σ st mr1 (er.mono st.pre st.fx) ex
    | ok bb m2 =>
      rw [hh] at q
      intro φ1 F1 H1 b' st mr1 hb'
      subst hb'
      have er1 := er.mono st.pre st.fx
      cases bb with
      | false =>
        rw [if_neg (by decide)]
        exact (Pso.step st q).nxtQ mr1 er1
      | true =>
        rw [if_pos rfl]
        refine ⟨_, fun σ' H' h => ⟨n, Nat.lt_succ_self _, h⟩, φ1, F1, en, m2, mr1, er1, Pso.turn (Pso.step st q) fun e3 m3 φ3 F3 H3 σ3 s3 mr3 er3 q3 => ⟨φ3, F3, e3, m3, mr3, er3, q3⟩⟩
/-- a turn of a walk -/
def loopB (G : Gx) (t : CT) (b : CSs) (d : D) (e : EnvD) (m : Mem) : Out := match bindT t d m e with
  | some e => execL G b e m
  | none => .stuck
theorem loop_turn {t : CT} {b : CSs} {D : Ends} {d : Mi.D} {x : V} {en : EnvD} {m : Mem} {σ : L2.St} {φ : List Addr} {F H : Hp} {k : EnvD → Mem → Out} {N : L2.St → Hp → Prop} (mr : MR X.K φ F H m) (er : EnvR X.K φ F en σ) (r : Rep X.K φ F d x)
    (q : Pso X.K W φ F H ((loopB G t b d en m).turn k) D) (hk : ∀ e m φ1 F1 H1 σ1, Stp φ F H φ1 F1 H1 → MR X.K φ1 F1 H1 m → EnvR X.K φ1 F1 e σ1 → Pso X.K W φ1 F1 H1 (k e m) D → N σ1 H1) :
    TGm X.K t x σ H fun σ2 H2 => TSm X.K W (execL G b) { D with nx := N, ct := N, bk := D.nx } σ2 H2 := by
  unfold loopB at q
  cases hb : bindT t d m en with
  | none => rw [hb] at q; exact q.elim
  | some e' =>
    rw [hb] at q
    exact ⟨φ, F, en, m, d, e', mr, er, r, hb, fun σ' er' _ => ⟨φ, F, e', m, mr, er', Pso.turn q hk⟩⟩
theorem ms_for {t : CT} {it : CI} {b : CSs} {tg iter : Expr} {sb : List Stmt} {pos : Pos} (hp : PassesOwn (model X.prog X.w) X.A X.env X.xe) (hc : X.calm = true) (hi : PI X tg iter (TIm X W G it)) (hg : PG X tg (TGm X.K t)) (hb : PSs X sb (TSm X.K W (execL G b)))
    (hs : plainE iter = true) : PS X (.For tg iter sb [] pos) (TSm X.K W (execS G (.loop t it b))) := by
  refine (ps_for hp hc hi hg hb (fun x => fold_plain hs _ x)).imp fun D σ H ⟨φ, F, en, m, mr, er, q⟩ => ⟨φ, F, en, m, mr, er, Pso.out er q fun Jd m1 φ1 F1 H1 J _ s1 mr1 r1 q1 => ?_⟩
  have er1 := er.mono s1.pre s1.fx
  cases Jd with
  | fix ds =>
    have q1 : Pso X.K W φ1 F1 H1 (forFix (loopB G t b) ds en m1) D := q1
    refine for_it r1 (fun i σ H => ∃ φ F en m, Stp φ1 F1 H1 φ F H ∧ MR X.K φ F H m ∧ EnvR X.K φ F en σ ∧ Pso X.K W φ F H (forFix (loopB G t b) (ds.drop i) en m) D) ⟨φ1, F1, en, m1, Stp.refl, mr1, er1, by rw [List.drop_zero]; exact q1⟩
      (fun i σ H _ ⟨φ, F, en, m, st, mr, er, q⟩ => st.fx.trans mr.ext) (fun i x σ H H' hi ⟨φ, F, en, m, st, mr, er, q⟩ ⟨d, hd, y⟩ => ?_) fun σ H ⟨φ, F, en, m, st, mr, er, q⟩ => ?_
    · have hdr : ds.drop i = d :: ds.drop (i + 1) := by
        obtain ⟨h1, h2⟩ := List.getElem?_eq_some_iff.mp hd
        rw [List.drop_eq_getElem_cons h1, h2]
      rw [hdr] at q
      rcases y with ⟨e, r⟩ | ⟨T, xs, es, e1, e2, e3, e4, r⟩
      · subst e
        exact loop_turn mr er (r.mono st.pre st.fx) q fun e3 m3 φ3 F3 H3 σ3 s3 mr3 er3 q3 => ⟨φ3, F3, e3, m3, st.trans s3, mr3, er3, q3⟩
      · subst e1 e3 e4
        obtain ⟨mr2, s2⟩ := mr.freeze (o := .tup xs) e2
        exact loop_turn mr2 (er.mono s2.pre s2.fx) (.tup upd_same ((r.mono st.pre st.fx).mono s2.pre s2.fx)) (Pso.step s2 q) fun e3 m3 φ3 F3 H3 σ3 s3 mr3 er3 q3 => ⟨φ3, F3, e3, m3, (st.trans s2).trans s3, mr3, er3, q3⟩
    · rw [List.drop_length] at q
      exact q.nxtQ mr er
  | liv n =>
    obtain ⟨la, hla, rfl⟩ := r1
    have q1 : Pso X.K W φ1 F1 H1 (forLiv (loopB G t b) n line 0 en m1) D := q1
    refine ⟨fun i mm σ H => ∃ φ F en m, Stp φ1 F1 H1 φ F H ∧ MR X.K φ F H m ∧ EnvR X.K φ F en σ ∧ Pso X.K W φ F H (forLiv (loopB G t b) n mm i en m) D, ⟨line, φ1, F1, en, m1, Stp.refl, mr1, er1, q1⟩, ?_⟩
    rintro i mm σ H ⟨φ, F, en, m, st, mr, er, q⟩
    rw [forLiv_eq] at q
    have hn := st.pre.get hla
    cases e1 : m[n]? with
    | none => rw [e1] at q; exact q.elim
    | some cl =>
      rw [e1] at q
      cases cl with
      | lst ys =>
        obtain ⟨_, ws, h1, h2⟩ := mr.cell n la _ hn e1
        simp only at q
        cases e2 : ys[i]? with
        | none =>
          rw [e2] at q
          refine .inl ⟨⟨ws, SqL.of h1, ?_⟩, q.nxtQ mr er⟩
          rw [h2.len]
          exact List.getElem?_eq_none_iff.mp e2
        | some y =>
          rw [e2] at q
          obtain ⟨yv, h3, h4⟩ := h2.get e2
          cases mm with
          | zero => exact q.elim
          | succ mm =>
            refine .inr ⟨⟨ws, yv, SqL.of h1, h3⟩, fun σ H => ∃ φ F en m, Stp φ1 F1 H1 φ F H ∧ MR X.K φ F H m ∧ EnvR X.K φ F en σ ∧ Pso X.K W φ F H (forLiv (loopB G t b) n mm (i + 1) en m) D, fun σ' H' h => ⟨mm, Nat.lt_succ_self _, h⟩, fun x H' ⟨e, hx⟩ => ?_⟩
            subst e
            have hxx := hx ws (SqL.of h1)
            rw [h3] at hxx
            cases hxx
            exact loop_turn mr er h4 q fun e3 m3 φ3 F3 H3 σ3 s3 mr3 er3 q3 => ⟨φ3, F3, e3, m3, st.trans s3, mr3, er3, q3⟩
      | _ => exact q.elim
end
end Mi

set_option Elab.async false
set_option linter.all false
set_option maxRecDepth 100000
set_option maxHeartbeats 4000000
/-! MiH: statements against the small language; defs. -/
namespace Mi
open PySem L2
variable [WW]
def locB (sc : Scope) (x : Str) : Bool := match sc.names.lookup x with
  | some .local => true
  | _ => false
def celB (sc : Scope) (x : Str) : Bool := match sc.names.lookup x with
  | some .cell => true
  | _ => false
def fnB (sc : Scope) : Bool := match sc.kind with
  | .function => true
  | _ => false
/-- an assignment's target and value go together -/
def asgB (sc : Scope) : Expr → Expr → Bool
  | .Name y py, .ListComp _ _ scope pos => celB sc y || (fnB sc && locB sc y && (py.line == pos.line) && !(scope.names.any fun (n, k) => n == y && (k == .local || k == .cell)))
  | .Name _ _, e => !lcB e
  | .Tuple [.Name x _, .Name _ _] _ _, .Tuple [_, _] _ _ => celB sc x
  | .Tuple _ _ _, .Tuple _ _ _ => false
  | .Tuple _ _ _, _ => true
  | _, _ => false
/-- raise x("..") -/
def rseB (sc : Scope) (x : Str) : Stmt → Bool
  | .Raise (some (.Call (.Name y _) [.Constant (.str _) _ _] [] _)) none _ => decide (x = y) && glB sc y && !dbg y
  | _ => false
/-- except x: return a constant -/
def hdB (N : List Str) (sc : Scope) (x : Str) (n : Option (Nat × Str)) (hd : CSs) : List ExceptHandler → Bool
  | [.ExceptHandler (some (.Name y _)) none [.Return (some e) _] _] => n.isNone && decide (x = y) && glB sc y && !dbg y && (match hd with
    | .cons (.ret (.cst d)) .nil => chkE N sc false false (.cst d) e
    | _ => false)
  | _ => false
mutual
def chkS (N : List Str) (sc : Scope) (af calm : Bool) : CS → Stmt → Bool
  | .exp a, .Expr e _ => !lcB e && chkE N sc af calm a e
  | .asg t a, .Assign [tg] e _ => asgB sc tg e && chkT N sc af calm t tg && chkE N sc af calm a e
  | .sub o i a, .Assign [.Subscript eo ei _] e _ => chkE N sc af calm o eo && chkE N sc af calm i ei && chkE N sc af calm a e
  | .att o f a, .Assign [.Attribute eo g _] e _ => decide (f = g) && chkE N sc af calm o eo && chkE N sc af calm a e
  | .par i j x y a b, .Assign [.Tuple [.Name x' px, .Name y' py] _ _] (.Tuple [e, e'] _ _) _ => calm && decide (x = x') && decide (y = y') && decide (N[i]? = some x) && decide (N[j]? = some y) && decide (i ≠ j) && locB sc x && locB sc y && fnB sc &&
      (py.line == px.line) && decide (x ≠ y) && !([e, e'].all (foldedForSure 8)) && !([e, e'].all (constantsAlone 8)) && chkE N sc af calm a e && chkE N sc af calm b e'
  | .ret a, .Return (some e) _ => chkE N sc af calm a e
  | .retN, .Return none _ => true
  | .ite t a b, .If e sa sb _ => notIf t && chkE N sc af calm t e && chkSs N sc af calm a sa && chkSs N sc af calm b sb
  | .loop t it b, .For tg iter sb [] _ => calm && (!zipB it || tupB t) && chkI N sc af calm it iter && chkT N sc af calm t tg && chkSs N sc af calm b sb
  | .whl t b, .While e sb [] _ => notIf t && chkE N sc af calm t e && chkSs N sc af calm b sb
  | .pas, .Pass _ => true
  | .brk, .Break _ => true
  | .cnt, .Continue _ => true
  | .setN o i a, .Assign [.Subscript eo ei _] e _ => chkE N sc af calm o eo && chkE N sc af calm i ei && chkE N sc af calm a e
  | .rse x _, st => decide (x = "") || (calm && rseB sc x st)
  | .tryx b x n hd, .Try body hs [] [] _ => af && hdB N sc x n hd hs && chkSs N sc false calm b body
  | _, _ => false
def chkSs (N : List Str) (sc : Scope) (af calm : Bool) : CSs → List Stmt → Bool
  | .nil, [] => true
  | .cons s ss, st :: sts => chkS N sc af calm s st && chkSs N sc af calm ss sts
  | _, _ => false
end
theorem loc_of {sc : Scope} {x : Str} (h : locB sc x = true) : sc.names.lookup x = some .local := by
  unfold locB at h
  split at h
  · assumption
  · cases h
theorem fn_of' {sc : Scope} (h : fnB sc = true) : sc.kind = .function := by
  unfold fnB at h
  split at h
  · assumption
  · cases h
theorem sw_cell {e1 : Expr} {gs : List Comprehension} {scope : Scope} {pos py : Pos} {y : Str} {l : Nat} {env : Env} (h : celB env.scope y = true) : swapsWith (.ListComp e1 gs scope pos) (some (.Name y py)) l env = pure false := by
  have hk : env.kindOf y = some .cell := by
    unfold celB at h
    split at h
    · assumption
    · cases h
  have hn : (NameKind.cell == NameKind.local) = false := by decide
  unfold swapsWith
  simp [hk, hn]
theorem sw_cells {x y : Str} {px py pt pt2 : Pos} {kt k2 : Nat} {e e' : Expr} {env : Env} (h : celB env.scope x = true) : swappedStores [.Tuple [.Name x px, .Name y py] kt pt] (.Tuple [e, e'] k2 pt2) env = pure none := by
  have hk : env.kindOf x = some .cell := by
    unfold celB at h
    split at h
    · assumption
    · cases h
  have hn : (some NameKind.cell == some NameKind.local) = false := by decide
  unfold swappedStores
  by_cases hy : env.kindOf y = some .local ∧ py.line = px.line
  · simp [hk, hy, Expr.pos]
  · have hy2 : (env.kindOf y == some .local && py.line == px.line) = false := by
      rw [Bool.and_eq_false_iff]
      by_cases h1 : env.kindOf y = some .local
      · right
        simpa using fun h2 => hy ⟨h1, h2⟩
      · left
        simpa using h1
    simp [hk, Expr.pos]
    intros
    simp_all
theorem sw_par {x y : Str} {px py pt pt2 : Pos} {kt k2 : Nat} {e e' : Expr} {env : Env} (hk : env.scope.kind = .function) (hx : env.scope.names.lookup x = some .local) (hy : env.scope.names.lookup y = some .local) (hl : (py.line == px.line) = true) (hxy : x ≠ y)
    (ha : plainE e = true) (hb : plainE e' = true) (hf : ([e, e'].all (foldedForSure 8)) = false) (hc : ([e, e'].all (constantsAlone 8)) = false) :
    swappedStores [.Tuple [.Name x px, .Name y py] kt pt] (.Tuple [e, e'] k2 pt2) env = pure (some [x, y]) := by
  have hbk : env.blockKind = .function := by unfold Env.blockKind; rw [hk]; rfl
  have kx : env.kindOf x = some .local := hx
  have ky : env.kindOf y = some .local := hy
  have hl' : py.line = px.line := by simpa using hl
  have hyx : (y == x) = false := by simpa using Ne.symm hxy
  unfold swappedStores
  simp [hbk, kx, ky, hl', hf, hc, Expr.pos, List.eraseDups, List.eraseDupsBy, List.eraseDupsBy.loop, hyx]
  rintro (h | h)
  · cases e <;> first | exact (Bool.false_ne_true h).elim | exact (Bool.false_ne_true ha).elim
  · cases e' <;> first | exact (Bool.false_ne_true h).elim | exact (Bool.false_ne_true hb).elim
theorem chk_lc {N : List Str} {sc : Scope} {af calm : Bool} {a : CE} {e1 : Expr} {gs : List Comprehension} {scope : Scope} {pos : Pos} (h : chkE N sc af calm a (.ListComp e1 gs scope pos) = true) :
    ∃ mu elt t it ifs ow tg iter es, a = .lc mu elt t it ifs ow ∧ gs = [⟨tg, iter, es, 0⟩] := by
  cases a with
  | lc mu elt t it ifs ow =>
    rcases gs with _ | ⟨⟨tg, iter, es, (_ | n) | n⟩, _ | ⟨g2, gs⟩⟩ <;> try exact (Bool.false_ne_true h).elim
    exact ⟨mu, elt, t, it, ifs, ow, tg, iter, es, rfl, rfl⟩
  | cst d => cases d <;> exact (Bool.false_ne_true h).elim
  | isi a one cs => cases one <;> (rcases cs with _ | ⟨c, _ | ⟨c2, cs⟩⟩) <;> exact (Bool.false_ne_true h).elim
  | x1 o a => cases o <;> exact (Bool.false_ne_true h).elim
  | x2 o a b => cases o <;> exact (Bool.false_ne_true h).elim
  | _ => exact (Bool.false_ne_true h).elim
def SS (G : Gx) (s : CS) : Prop := ∀ {X : Cx} {W : WX} {k : Nat} {af calm : Bool}, CK X W G k af → (calm = true → X.calm = true) → PassesOwn (model X.prog X.w) X.A X.env X.xe → ∀ st : Stmt, chkS X.N X.env.scope af calm s st = true → PS X st (TSm X.K W (execS G s))
def SSs (G : Gx) (s : CSs) : Prop := ∀ {X : Cx} {W : WX} {k : Nat} {af calm : Bool}, CK X W G k af → (calm = true → X.calm = true) → PassesOwn (model X.prog X.w) X.A X.env X.xe → ∀ st : List Stmt, chkSs X.N X.env.scope af calm s st = true → PSs X st (TSm X.K W (execL G s))
section
variable {G : Gx}
theorem ss_exp (a : CE) : SS G (.exp a) := by
  intro X W k af calm c hc hp st h
  cases st with
  | Expr e p =>
    simp only [chkS, Bool.and_eq_true] at h
    exact ms_exp (soundE G a c hc e h.2).1 (not_t h.1)
  | _ => exact (Bool.false_ne_true h).elim
theorem ss_asg (t : CT) (a : CE) : SS G (.asg t a) := by
  intro X W k af calm c hc hp st h
  cases st with
  | Assign tgs e p =>
    rcases tgs with _ | ⟨tg, _ | ⟨t2, ts⟩⟩ <;> try exact (Bool.false_ne_true h).elim
    simp only [chkS, Bool.and_eq_true] at h
    obtain ⟨⟨h1, h2⟩, h3⟩ := h
    have hg : PG X tg (TGm X.K t) := mg_of c.nd c.fn hc h2
    have he := (soundE G a c hc e h3).1
    cases tg with
    | Name y py =>
      by_cases hl : lcB e = true
      · cases e with
        | ListComp e1 gs scope pos =>
          obtain ⟨mu, elt, t2, it, ifs, ow, tg, iter, es, rfl, rfl⟩ := chk_lc h3
          cases t with
          | tup _ => exact (Bool.false_ne_true h2).elim
          | nam i x =>
            simp only [chkT, Bool.and_eq_true, decide_eq_true_eq] at h2
            obtain ⟨h4, h5⟩ := h2
            subst h4
            simp only [asgB, Bool.or_eq_true, Bool.and_eq_true] at h1
            rcases h1 with h1 | ⟨⟨⟨q1, q2⟩, q3⟩, q4⟩
            · exact ms_asg he hg (sw_cell h1) rfl rfl
            have q := lc_parts (mu := mu) (pos := pos) (soundI G it) (soundL G ifs) (soundE G elt) c hc (show chkE X.N X.env.scope af calm (.lc mu elt t2 it ifs ow) (.ListComp e1 [⟨tg, iter, es, 0⟩] scope pos) = true from h3)
            exact ms_asgLc (pos := pos) c q (sto_of h5).1 (loc_of q2) (fn_of' q1) q3 (not_t q4)
        | SetComp _ _ _ _ => exact (Bool.false_ne_true h1).elim
        | DictComp _ _ _ _ _ => exact (Bool.false_ne_true h1).elim
        | _ => cases hl
      · have hl : lcB e = false := by simpa using hl
        exact ms_asg he hg (sw_plain hl) (by cases e <;> rfl) rfl
    | Tuple es n pt =>
      have hw : swappedStores [.Tuple es n pt] e X.env = pure none := by
        cases e with
        | Tuple vs n2 pt2 =>
          rcases es with _ | ⟨a1, _ | ⟨a2, _ | ⟨a3, es⟩⟩⟩ <;> rcases vs with _ | ⟨b1, _ | ⟨b2, _ | ⟨b3, vs⟩⟩⟩ <;> first | exact (Bool.false_ne_true h1).elim | (cases a1 <;> first | exact (Bool.false_ne_true h1).elim | (cases a2 <;> first | exact (Bool.false_ne_true h1).elim | exact sw_cells h1))
        | _ => rfl
      exact ms_asg he hg (sw_tgt rfl) hw rfl
    | _ => exact (Bool.false_ne_true h1).elim
  | _ => exact (Bool.false_ne_true h).elim
theorem ss_sub (o i a : CE) : SS G (.sub o i a) := by
  intro X W k af calm c hc hp st h
  cases st with
  | Assign tgs e p =>
    rcases tgs with _ | ⟨tg, _ | ⟨t2, ts⟩⟩ <;> try exact (Bool.false_ne_true h).elim
    · cases tg with
      | Subscript eo ei p =>
        simp only [chkS, Bool.and_eq_true] at h
        obtain ⟨⟨h1, h2⟩, h3⟩ := h
        exact ms_sub c.hu (soundE G o c hc eo h1).1 (soundE G i c hc ei h2).1 (soundE G a c hc e h3).1 (chk_plain h2)
      | _ => exact (Bool.false_ne_true h).elim
    · cases tg <;> exact (Bool.false_ne_true h).elim
  | _ => exact (Bool.false_ne_true h).elim
theorem ss_setN (o i a : CE) : SS G (.setN o i a) := by
  intro X W k af calm c hc hp st h
  cases st with
  | Assign tgs e p =>
    rcases tgs with _ | ⟨tg, _ | ⟨t2, ts⟩⟩ <;> try exact (Bool.false_ne_true h).elim
    · cases tg with
      | Subscript eo ei p =>
        simp only [chkS, Bool.and_eq_true] at h
        obtain ⟨⟨h1, h2⟩, h3⟩ := h
        exact ms_setN c (soundE G o c hc eo h1).1 (soundE G i c hc ei h2).1 (soundE G a c hc e h3).1 (chk_plain h2)
      | _ => exact (Bool.false_ne_true h).elim
    · cases tg <;> exact (Bool.false_ne_true h).elim
  | _ => exact (Bool.false_ne_true h).elim
theorem ss_att (o : CE) (f : Str) (a : CE) : SS G (.att o f a) := by
  intro X W k af calm c hc hp st h
  cases st with
  | Assign tgs e p =>
    rcases tgs with _ | ⟨tg, _ | ⟨t2, ts⟩⟩ <;> try exact (Bool.false_ne_true h).elim
    · cases tg with
      | Attribute eo g p =>
        simp only [chkS, Bool.and_eq_true, decide_eq_true_eq] at h
        obtain ⟨⟨h1, h2⟩, h3⟩ := h
        subst h1
        exact ms_att c (soundE G o c hc eo h2).1 (soundE G a c hc e h3).1
      | _ => exact (Bool.false_ne_true h).elim
    · cases tg <;> exact (Bool.false_ne_true h).elim
  | _ => exact (Bool.false_ne_true h).elim
theorem ss_par (i j : Nat) (x y : Str) (a b : CE) : SS G (.par i j x y a b) := by
  intro X W k af calm c hc hp st h
  unfold chkS at h
  split at h <;> try contradiction
  rename_i heq heq2
  cases heq
  cases heq2
  simp only [Bool.and_eq_true, decide_eq_true_eq] at h
  obtain ⟨⟨⟨⟨⟨⟨⟨⟨⟨⟨⟨⟨⟨⟨h1, h2⟩, h3⟩, h4⟩, h5⟩, h6⟩, h7⟩, h8⟩, h9⟩, h10⟩, h11⟩, h12⟩, h13⟩, h14⟩, h15⟩ := h
  subst h2 h3
  have ha := (soundE G a c hc _ h14).1
  have hb := (soundE G b c hc _ h15).1
  exact ms_par c (hc h1) h4 h5 h6 (loc_of h7) (loc_of h8) (ma_cons ha (ma_cons hb ma_nil (chk_plain h15)) (chk_plain h14)) (sw_par (fn_of' h9) (loc_of h7) (loc_of h8) h10 h11 (chk_plain h14) (chk_plain h15) (not_t h12) (not_t h13))
theorem ss_ret (a : CE) : SS G (.ret a) := by
  intro X W k af calm c hc hp st h
  cases st with
  | Return e p =>
    cases e with
    | none => exact (Bool.false_ne_true h).elim
    | some e => exact ms_ret (soundE G a c hc e h).1
  | _ => exact (Bool.false_ne_true h).elim
theorem ss_retN : SS G .retN := by
  intro X W k af calm c hc hp st h
  cases st with
  | Return e p =>
    cases e with
    | none => exact ms_retN
    | some e => exact (Bool.false_ne_true h).elim
  | _ => exact (Bool.false_ne_true h).elim
theorem ss_pas : SS G .pas := by
  intro X W k af calm c hc hp st h
  cases st with
  | Pass p => exact ms_pas
  | _ => exact (Bool.false_ne_true h).elim
theorem ss_brk : SS G .brk := by
  intro X W k af calm c hc hp st h
  cases st with
  | Break p => exact ms_brk
  | _ => exact (Bool.false_ne_true h).elim
theorem ss_cnt : SS G .cnt := by
  intro X W k af calm c hc hp st h
  cases st with
  | Continue p => exact ms_cnt
  | _ => exact (Bool.false_ne_true h).elim
theorem ss_ite (t : CE) {a b : CSs} (ha : SSs G a) (hb : SSs G b) : SS G (.ite t a b) := by
  intro X W k af calm c hc hp st h
  cases st with
  | If e sa sb p =>
    simp only [chkS, Bool.and_eq_true] at h
    obtain ⟨⟨⟨h1, h2⟩, h3⟩, h4⟩ := h
    exact ms_ite ((soundE G t c hc e h2).2 h1) (ha c hc hp sa h3) (hb c hc hp sb h4)
  | _ => exact (Bool.false_ne_true h).elim
theorem ss_whl (t : CE) {b : CSs} (hb : SSs G b) : SS G (.whl t b) := by
  intro X W k af calm c hc hp st h
  cases st with
  | While e sb se p =>
    cases se with
    | nil =>
      simp only [chkS, Bool.and_eq_true] at h
      obtain ⟨⟨h1, h2⟩, h3⟩ := h
      exact ms_whl hp ((soundE G t c hc e h2).2 h1) (hb c hc hp sb h3)
    | cons _ _ => exact (Bool.false_ne_true h).elim
  | _ => exact (Bool.false_ne_true h).elim
theorem ss_loop (t : CT) (it : CI) {b : CSs} (hb : SSs G b) : SS G (.loop t it b) := by
  intro X W k af calm c hc hp st h
  cases st with
  | For tg iter sb se p =>
    cases se with
    | nil =>
      simp only [chkS, Bool.and_eq_true] at h
      obtain ⟨⟨⟨⟨h1, h2⟩, h3⟩, h4⟩, h5⟩ := h
      have htg : zipB it = true → ∃ elts kk p, tg = .Tuple elts kk p := fun z => by
        rw [z] at h2
        cases t with
        | nam _ _ => cases h2
        | tup xs =>
          cases tg with
          | Tuple elts kk p => exact ⟨elts, kk, p, rfl⟩
          | _ => exact (Bool.false_ne_true h4).elim
      obtain ⟨q1, q2⟩ := soundI G it c hc tg iter h3 htg
      exact ms_for hp (hc h1) q1 (mg_of c.nd c.fn hc h4) (hb c hc hp sb h5) q2
    | cons _ _ => exact (Bool.false_ne_true h).elim
  | _ => exact (Bool.false_ne_true h).elim
theorem ss_no (s : CS) (h : ∀ N sc af calm st, chkS N sc af calm s st = false) : SS G s := by
  intro X W k af calm c hc hp st hh
  rw [h] at hh
  cases hh
theorem ss_rse (x : Str) (es : CEs) : SS G (.rse x es) := by
  intro X W k af calm c hc hp st h
  have h : (decide (x = "") || (calm && rseB X.env.scope x st)) = true := by
    cases st <;> exact h
  by_cases hx : x ≠ "" ∧ G.exc x = true
  · rw [Bool.or_eq_true, Bool.and_eq_true] at h
    obtain ⟨h1, h2⟩ := h.resolve_left fun z => hx.1 (of_decide_eq_true z)
    unfold rseB at h2
    split at h2
    · simp only [Bool.and_eq_true, decide_eq_true_eq] at h2
      obtain ⟨⟨h3, h4⟩, h5⟩ := h2
      subst h3
      have eo := c.g.exc x hx.2
      have F := PySem.F.excBase_ValueError
      refine (ps_raise (hc h1) c.tk (pmk_own F eo.q eo.mg eo.keep (raises_own eo.sub eo.ty) (gl_of h4) (not_t h5))).imp fun D σ H ⟨φ, F, en, m, mr, er, q⟩ => ?_
      have q : Pso X.K W φ F H (if x ≠ "" ∧ G.exc x = true then .exc ⟨x, []⟩ en m else .stuck) D := q
      rw [if_pos hx] at q
      exact q φ F H _ none σ Stp.refl mr er ⟨rfl, .inl ⟨rfl, rfl⟩, fun _ => rfl⟩
    · cases h2
  · exact (ps_never (X := X) (st := st)).imp fun D σ H ⟨φ, F, en, m, mr, er, q⟩ => by
      have q : Pso X.K W φ F H (if x ≠ "" ∧ G.exc x = true then .exc ⟨x, []⟩ en m else .stuck) D := q
      rw [if_neg hx] at q
      exact q
theorem LamOk.tr {X : Cx} {k : Nat} (l : LamOk X k G) (pn : List (Addr × Obj)) (xe : Value → Shared → Prop) : LamOk (X.tr pn xe) k G := ⟨l.lev, l.kind, l.tab⟩
theorem ss_tryx0 {X : Cx} {W : WX} {k : Nat} {calm : Bool} {b : CSs} {x : Str} {d : D} {body : List Stmt} {e : Expr} {py pr ph pt : Pos} (hb : SSs G b) (c : CK X W G k true) (hc : calm = true → X.calm = true) (hp : PassesOwn (model X.prog X.w) X.A X.env X.xe)
    (h3 : glB X.env.scope x = true) (h4 : (!dbg x) = true) (h5 : chkSs X.N X.env.scope false calm b body = true) (h6 : chkE X.N X.env.scope false false (.cst d) e = true) :
    PS X (.Try body [.ExceptHandler (some (.Name x py)) none [.Return (some e) pr] ph] [] [] pt) (TSm X.K W (execS G (.tryx b x none (.cons (.ret (.cst d)) .nil)))) := by
  obtain ⟨s1, s2⟩ := c.st rfl
  by_cases hm : X.mg x = some (.ref (He.ga X.K x))
  · refine (ps_try_only (X := X) (c := .ref (He.ga X.K x)) (tb := fun W' => TSm X.K W' (execL G b)) (ts := fun _ _ _ => TSm X.K W0 (execS G (.ret (.cst d)))) s1 s2 ⟨gl_of h3, not_t h4, .inl hm⟩ c.tk (fun W' pn xe tk pa => ?_) (fun a oe cls dd pn _ _ => ?_)).imp fun D σ H ⟨φ, F, en, m, mr, er, q⟩ => ?_
    · have c2 : CK (X.tr pn xe) W' G k false := ⟨c.g, c.hu, c.room, tk, c.nd, (fun h => nomatch h), (fun h => nomatch h), (fun h => nomatch h), fun h => nomatch h⟩
      exact hb c2 hc pa body h5
    · have c2 : CK (X.suite a ((a, oe) :: pn)) W0 G k false := ⟨c.g, c.hu, (fun z => nomatch z), takes0, c.nd, (fun h => nomatch h), (fun h => nomatch h), (fun h => nomatch h), fun h => nomatch h⟩
      exact pss_one (ms_ret (soundE G (.cst d) c2 (calm := false) (fun z => nomatch z) e h6).1)
    · have q : Pso X.K W φ F H (match execL G b en m with
        | .exc y e' m' => match G.exm y.cls x with
          | some true => (execL G (.cons (.ret (.cst d)) .nil) e' m').noExc
          | some false => .exc y e' m'
          | none => .stuck
        | o => o) D := q
      refine ⟨φ, F, en, m, mr, er, ?_⟩
      cases ho : execL G b en m with
      | exc y e' m' =>
        rw [ho] at q
        intro φ' F' H' cl dd σ' st mr' er' ex
        cases hg : G.exm y.cls x with
        | none =>
          simp only [hg] at q
          exact q.elim
        | some bb =>
          refine ⟨bb, by rw [ex.cls]; exact (c.g.exm _ _ _ hg).1, fun e1 a ha => ?_, fun e1 => ?_⟩
          · subst e1
            simp only [hg] at q
            exact ⟨φ', F', e', m', mr', er', Pso.step (K := X.K) (W := W0) (r := .ret d m') st fun φ2 F2 H2 v s2 => q φ2 F2 H2 v s2⟩
          · subst e1
            simp only [hg] at q
            exact q φ' F' H' cl dd σ' st mr' er' ex
      | _ => rw [ho] at q; exact q
  · refine (ps_try_thru0 (X := X) (t := TSm X.K W0 (execL G b)) ?_).imp fun D σ H ⟨φ, F, en, m, mr, er, q⟩ => ?_
    · have c2 : CK X.nox W0 G k false := ⟨c.g, c.hu, c.room, takes0, c.nd, (fun h => nomatch h), (fun h => nomatch h), (fun h => nomatch h), fun h => nomatch h⟩
      exact hb c2 hc PassesOwn.never body h5
    · have q : Pso X.K W φ F H (match execL G b en m with
        | .exc y e' m' => match G.exm y.cls x with
          | some true => (execL G (.cons (.ret (.cst d)) .nil) e' m').noExc
          | some false => .exc y e' m'
          | none => .stuck
        | o => o) D := q
      refine ⟨φ, F, en, m, mr, er, ?_⟩
      cases ho : execL G b en m with
      | exc y e' m' =>
        rw [ho] at q
        cases hg : G.exm y.cls x with
        | none =>
          simp only [hg] at q
          exact q.elim
        | some bb => exact absurd (c.g.exm _ _ _ hg).2 hm
      | _ => rw [ho] at q; exact q
theorem ss_tryx {b : CSs} (x : Str) (n : Option (Nat × Str)) (hd : CSs) (hb : SSs G b) : SS G (.tryx b x n hd) := by
  intro X W k af calm c hc hp st h
  cases st with
  | Try body hs oe fe pt =>
    cases oe with
    | cons _ _ => exact (Bool.false_ne_true h).elim
    | nil =>
    cases fe with
    | cons _ _ => exact (Bool.false_ne_true h).elim
    | nil =>
    have h : (af && hdB X.N X.env.scope x n hd hs && chkSs X.N X.env.scope false calm b body) = true := h
    simp only [Bool.and_eq_true] at h
    obtain ⟨⟨h1, h2⟩, h5⟩ := h
    subst h1
    unfold hdB at h2
    split at h2
    · rename_i y py e pr ph
      simp only [Bool.and_eq_true, decide_eq_true_eq] at h2
      obtain ⟨⟨⟨⟨h0, h2⟩, h3⟩, h4⟩, h6⟩ := h2
      have hn : n = none := by simpa using h0
      subst h2 hn
      split at h6
      · rename_i d
        exact ss_tryx0 hb c hc hp h3 h4 h5 h6
      · cases h6
    · cases h2
  | _ => exact (Bool.false_ne_true h).elim
theorem sss_nil : SSs G .nil := by
  intro X W k af calm c hc hp st h
  cases st with
  | nil => exact mss_nil
  | cons _ _ => exact (Bool.false_ne_true h).elim
theorem sss_cons {s : CS} {ss : CSs} (h1 : SS G s) (h2 : SSs G ss) : SSs G (.cons s ss) := by
  intro X W k af calm c hc hp st h
  cases st with
  | nil => exact (Bool.false_ne_true h).elim
  | cons st sts =>
    simp only [chkSs, Bool.and_eq_true] at h
    exact mss_cons (h1 c hc hp st h.1) (h2 c hc hp sts h.2)
end
section
variable (G : Gx)
mutual
theorem soundS : ∀ s : CS, SS G s
  | .exp a => ss_exp a
  | .asg t a => ss_asg t a
  | .sub o i a => ss_sub o i a
  | .att o f a => ss_att o f a
  | .par i j x y a b => ss_par i j x y a b
  | .ret a => ss_ret a
  | .retN => ss_retN
  | .ite t a b => ss_ite t (soundSs a) (soundSs b)
  | .loop t it b => ss_loop t it (soundSs b)
  | .whl t b => ss_whl t (soundSs b)
  | .rse x es => ss_rse x es
  | .tryx b x n h => ss_tryx x n h (soundSs b)
  | .pas => ss_pas
  | .brk => ss_brk
  | .cnt => ss_cnt
  | .setN o i a => ss_setN o i a
theorem soundSs : ∀ s : CSs, SSs G s
  | .nil => sss_nil
  | .cons s ss => sss_cons (soundS s) (soundSs ss)
end
end
theorem env_start {K : PySem.W.Frag} {φ : List Addr} {F : Hp} {ds : List D} {vs : List V} {N : List Str} (r : RepL K φ F ds vs) : EnvR K φ F (ds.map some ++ List.replicate (N.length - ds.length) none) (L2.start N vs) := by
  refine ⟨by simp [L2.start, r.len], fun i d h => ?_⟩
  by_cases hi : i < ds.length
  · rw [List.getElem?_append_left (by simpa using hi), List.getElem?_map] at h
    obtain ⟨d', h1, h2⟩ := Option.map_eq_some_iff.mp h
    cases h2
    obtain ⟨v, h3, h4⟩ := r.get h1
    refine ⟨v, ?_, h4⟩
    unfold L2.start
    rw [List.getElem?_append_left (by rw [List.length_map, r.len]; exact hi), List.getElem?_map, h3]
    rfl
  · rw [List.getElem?_append_right (by simp; omega), List.getElem?_replicate] at h
    split at h <;> cases h
/-- what a def needs that makes lambdas for `_law_kind` -/
structure LamD (P : Program) (w : World) (K : PySem.W.Frag) (mg : Str → Option Value) (base : Heap) (k : Nat) (G : Gx) (qual : Str) (cdv : Value) : Prop where
  lev : ∃ j, k = j + 2 ∧ GOk P w K mg base j G
  kind : KindOk P w K mg base
  tab : ∃ c Pt, LamX.TabB base mg c Pt ∧ cdv = .ref c ∧ (Pt, (qual ++ ".<locals>.") ++ "<lambda>") ∈ WW.T ∧ ∀ p ∈ WW.T, p.1 = Pt → p.2 = (qual ++ ".<locals>.") ++ "<lambda>"
theorem LamD.ok {P : Program} {w : World} {K : PySem.W.Frag} {mg : Str → Option Value} {base : Heap} {k : Nat} {G : Gx} {qual : Str} {cdv : Value} (l : LamD P w K mg base k G qual cdv) {X : Cx} (h1 : X.prog = P) (h2 : X.w = w) (h3 : X.K = K) (h4 : X.mg = mg) (h5 : X.base = base) (h6 : X.env.qual = qual ++ ".<locals>.") (h7 : X.env.code = cdv) : LamOk X k G := by
  subst h1 h2 h3 h4 h5 h7
  refine ⟨l.lev, l.kind, ?_⟩
  rw [h6]
  exact l.tab
/-- THE RULE for a def with lambdas -/
theorem def_okL {P : Program} {w : World} {K : PySem.W.Frag} {mg : Str → Option Value} {base : Heap} {x qual : Str} {params : Arguments} {body : List Stmt} {scope : Scope} {f : Addr} {fd : FuncData} {N ps : List Str} {b : CSs} {G : Gx} {k : Nat}
    (F : FunD K x qual params body scope [] [] f fd) (S : FnScope N ps scope) (g : GOk P w K mg base k G) (chk : chkSs N scope true true b body = true) (lam : G.kin = true → LamD P w K mg base k G qual fd.code) (hi : ∀ x, G.ise x = none := by intro x; rfl) : FnOk P w K mg base (L2.CX P w) (k + 2) f fd ps (spOf K ps.length (runDef G b ps.length N.length)) := by
  obtain ⟨oc, od, dV, kV, doc, pm, an, cdv, ct, osl, rfl, lk, hcd, _, _⟩ := F.ex
  refine fn_of lk hcd S (fun vs H Q E h => h.1) fun A outer s H vs Q E hr ⟨hl, φ, F, ds, m, mr, r, q⟩ => ?_
  have c : CK (cxOf (L2.CX P w) P w K mg base N qual scope f cdv A outer s H E) (fun cls d _ H => E cls d H) G k true :=
    ⟨g, by have := hr.un; show (A.deeper _).units + 65 < cLine; omega, fun _ => hr, takes_of rfl rfl rfl rfl, S.nd, fun _ _ => rfl, fun _ => ⟨rfl, rfl⟩, (fun _ hk => (lam hk).ok rfl rfl rfl rfl rfl rfl rfl), fun _ x b h => by rw [hi x] at h; cases h⟩
  refine ⟨_, soundSs G b c (fun _ => rfl) (passes_of rfl) body chk, φ, F, _, m, mr, env_start r, ?_⟩
  have hld : ds.length = ps.length := by rw [← hl, r.len]
  unfold runDef at q
  rw [if_pos hld] at q
  generalize execL G b (ds.map some ++ List.replicate (N.length - ds.length) none) m = o at q ⊢
  cases o with
  | stuck => exact q.elim
  | nxt e m' => exact fun φ' F' H' σ st mr' _ => Pst.settle mr q st mr' .non
  | ret d m' => exact fun φ' F' H' v st mr' r' => Pst.settle mr q st mr' r'
  | brk e m' => exact q.elim
  | cnt e m' => exact q.elim
  | exc z e m' => exact fun φ' F' H' cl dd σ st mr' _ ex => q φ' F' H' cl dd st mr' ex
/-- THE RULE for a def -/
theorem def_ok {P : Program} {w : World} {K : PySem.W.Frag} {mg : Str → Option Value} {base : Heap} {x qual : Str} {params : Arguments} {body : List Stmt} {scope : Scope} {f : Addr} {fd : FuncData} {N ps : List Str} {b : CSs} {G : Gx} {k : Nat}
    (F : FunD K x qual params body scope [] [] f fd) (S : FnScope N ps scope) (g : GOk P w K mg base k G) (chk : chkSs N scope true true b body = true) (hk : G.kin = false := by rfl) (hi : ∀ x, G.ise x = none := by intro x; rfl) : FnOk P w K mg base (L2.CX P w) (k + 2) f fd ps (spOf K ps.length (runDef G b ps.length N.length)) :=
  def_okL F S g chk (fun z => by rw [hk] at z; cases z) hi
theorem run_ar {G : Gx} {b : CSs} {n s : Nat} : ∀ (ds : List D) (m : Mem), ds.length ≠ n → runDef G b n s ds m = .stuck := fun ds m h => if_neg h
end Mi

set_option Elab.async false
set_option linter.all false
set_option maxRecDepth 100000
set_option maxHeartbeats 4000000
/-! MiJ: the names of a module by tables; the head's Hook with the tables' values. -/
namespace Mi
open PySem PySem.Spec PyProof.Rows L2
/-! ### the Hook -/
abbrev TabV : Type := Str × List (Str × He.Dv)
def tabsOf (tv : List TabV) : List He.Tab := tv.map fun t => ((fun K => He.ga K t.1), t.2.map (·.1))
def obsV (fa : List He.Fa) (fn : List He.DefD) (tv : List TabV) (K : PySem.W.Frag) : He.AlT × Bool := (He.obsT fa fn (tabsOf tv) K, tv.all fun t => He.valsB K (He.ga K t.1) t.2)
def valV (fn : List He.DefD) (tv : List TabV) (w : World) : He.AlT × Bool := (He.valT fn (tabsOf tv) w, true)
def obsVG (n : Nat) (fa : List He.Fa) (fn : List He.DefD) (tv : List TabV) (g : Addr → Option Obj) : He.AlT × Bool := obsV fa fn tv (He.frG g (He.asD g n))
def SaysV (fa : List He.Fa) (fn : List He.DefD) (tv : List TabV) (w : World) (K : PySem.W.Frag) : Prop := obsV fa fn tv K = valV fn tv w
def hookV (n : Nat) (fa : List He.Fa) (fn : List He.DefD) (tv : List TabV) : PySem.W.Hook where
  α := He.AlT × Bool
  obs := fun s => obsVG n fa fn tv s.heap.get?
  val := fun w => valV fn tv w
  says := fun w h => ∃ K : PySem.W.Frag, K.In h ∧ SaysV fa fn tv w K
  of := fun _ _ e => ⟨_, He.frG_in, e⟩
  keeps := fun _ _ _ ⟨K, hK, c⟩ k => ⟨K, PySem.W.Frag.In.keeps hK k, c⟩
theorem obsVG_eq {n : Nat} {fa : List He.Fa} {fn : List He.DefD} {tv : List TabV} {g : Addr → Option Obj} {s : Shared} (h : ∀ a, g a = s.heap.get? a) : obsVG n fa fn tv g = (hookV n fa fn tv).obs s := by
  have e : g = s.heap.get? := funext h
  rw [e] <;> rfl
theorem SaysV.t {fa : List He.Fa} {fn : List He.DefD} {tv : List TabV} {w : World} {K : PySem.W.Frag} (c : SaysV fa fn tv w K) : He.SaysT fa fn (tabsOf tv) w K := congrArg (fun z : He.AlT × Bool => z.1) c
theorem SaysV.vals {fa : List He.Fa} {fn : List He.DefD} {tv : List TabV} {w : World} {K : PySem.W.Frag} (c : SaysV fa fn tv w K) {t : TabV} (h : t ∈ tv) : He.valsB K (He.ga K t.1) t.2 = true := by
  have e : (tv.all fun t => He.valsB K (He.ga K t.1) t.2) = true := congrArg (fun z : He.AlT × Bool => z.2) c
  exact List.all_eq_true.mp e t h
theorem SaysV.dic {fa : List He.Fa} {fn : List He.DefD} {tv : List TabV} {w : World} {K : PySem.W.Frag} (c : SaysV fa fn tv w K) (i : Nat) {t : TabV} (h : tv[i]? = some t) : He.dicW K (He.ga K t.1) = some (He.keysIn w.params (t.2.map (·.1))) := by
  have e : (tabsOf tv).map (fun t => He.dicW K (t.1 K)) = (tabsOf tv).map fun t => some (He.keysIn w.params t.2) := congrArg (fun z : He.AlT => z.2) c.t
  have e2 : ((tabsOf tv).map fun t => He.dicW K (t.1 K))[i]? = ((tabsOf tv).map fun t => some (He.keysIn w.params t.2))[i]? := by rw [e]
  unfold tabsOf at e2
  rw [List.getElem?_map, List.getElem?_map, List.getElem?_map, List.getElem?_map, h] at e2
  exact Option.some.inj e2
variable [WW]
theorem dic_none {K : PySem.W.Frag} {w : World} {a : Addr} {ks : List Str} (h : He.dicW K a = some (He.keysIn w.params ks)) {z : Str} (hz : z ∉ ks) : PySem.W.nsIn K a z = some none := by
  obtain ⟨es, n, D⟩ := He.dicW_ok h
  have hk : es.toList.map He.keyOf = He.keysIn w.params ks := by
    unfold He.dicW at h
    rw [D.at_] at h
    simp only at h
    split at h
    · exact Option.some.inj h
    · cases h
  have hkey : ∀ e ∈ es.toList, ∃ x t, e.key = .str x t ∧ x ∈ ks := fun e he => by
    have h1 : He.keyOf e ∈ He.keysIn w.params ks := by rw [← hk]; exact List.mem_map_of_mem he
    unfold He.keysIn at h1
    obtain ⟨x, hx, e2⟩ := List.mem_map.mp h1
    unfold He.keyOf at e2
    split at e2
    · rename_i y t q
      have e3 := Option.some.inj e2
      obtain ⟨e4, _⟩ := Prod.mk.inj e3
      exact ⟨y, t, q, e4 ▸ hx⟩
    · cases e2
  unfold PySem.W.nsIn
  rw [D.at_]
  have h1 : es.toList.find? (fun e => e.key.isStr z) = none := List.find?_eq_none.mpr fun e he hh => by
    obtain ⟨x, t, q, hx⟩ := hkey e he
    rw [q] at hh
    have : x = z := by simpa [Value.isStr] using hh
    exact hz (this ▸ hx)
  have h2 : es.toList.any (·.refKey) = false := List.any_eq_false.mpr fun e he hh => by
    obtain ⟨x, t, q, hx⟩ := hkey e he
    unfold DictEntry.refKey at hh
    rw [q] at hh
    cases hh
  simp only [h1, h2]
  rfl
/-! ### constants -/
def dvD : He.Dv → Option D
  | .int i => some (.int i)
  | .str x => some (.str x)
  | .bl b => some (.bl b)
  | .non => some .non
  | _ => none
theorem dv_rep {K : PySem.W.Frag} {v : He.Dv} {d : D} (h : dvD v = some d) (φ : List Addr) (F : Hp) : Rep K φ F d (v.v K) := by
  cases v <;> cases h <;> constructor
/-- a module's table as data -/
def dvs : List (Str × He.Dv) → List (Str × D)
  | [] => []
  | (x, v) :: r => match dvD v with
    | some d => (x, d) :: dvs r
    | none => dvs r
def dvsOk (l : List (Str × He.Dv)) : Bool := l.all fun p => (dvD p.2).isSome
theorem dvs_look {z : Str} : ∀ {l : List (Str × He.Dv)}, dvsOk l = true → match (dvs l).lookup z with
    | some d => ∃ v, (z, v) ∈ l ∧ dvD v = some d
    | none => z ∉ l.map (·.1)
  | [], _ => by simp [dvs]
  | (x, v) :: r, h => by
    have h0 : ((dvD v).isSome && dvsOk r) = true := h
    rw [Bool.and_eq_true] at h0
    obtain ⟨d, hd⟩ := Option.isSome_iff_exists.mp h0.1
    have ih := dvs_look (z := z) h0.2
    unfold dvs
    rw [hd]
    by_cases e : z = x
    · subst e
      rw [List.lookup_cons_self]
      exact ⟨v, List.mem_cons_self, hd⟩
    · have e2 : (z == x) = false := by simpa using e
      rw [List.lookup_cons, e2]
      simp only
      split <;> rename_i q
      · rw [q] at ih
        obtain ⟨v', h1, h2⟩ := ih
        exact ⟨v', List.mem_cons_of_mem _ h1, h2⟩
      · rw [q] at ih
        simp only at ih
        rw [List.map_cons, List.mem_cons, not_or]
        exact ⟨e, ih⟩
/-! ### the names of a module -/
structure Tb where
  con : List (Str × D)
  dcs : List (Str × List (Str × He.Dv))
  fld : List (Str × List Str)
  exc : List Str := []
  exm : List ((Str × Str) × Bool) := []
def mkG (t : Tb) (fns inis : List (Str × Fn)) (mets : List ((Str × Str) × Fn)) (fuel : Nat) (kin : Bool := false) : Gx where
  con := fun x => t.con.lookup x
  fn := fun x => fns.lookup x
  ini := fun x => inis.lookup x
  met := fun C n => mets.lookup (C, n)
  dcs := fun x => (t.dcs.lookup x).map dvs
  fld := fun C f => match t.fld.lookup C with
    | some fs => decide (f ∈ fs)
    | none => false
  fuel := fuel
  exc := fun x => decide (x ∈ t.exc)
  exm := fun x y => t.exm.lookup (x, y)
  kin := kin
  ise := fun _ => none
section
variable (P : Program) (w : World) (K : PySem.W.Frag) (mg : Str → Option Value) (base : Heap)
def FnE (k : Nat) (x : Str) (g : Fn) : Prop := ∃ f fd ps, FnOk P w K mg base (L2.CX P w) k f fd ps (spOf K ps.length g) ∧ (∀ ds m, ds.length ≠ ps.length → g ds m = .stuck) ∧ mg x = some (.ref f) ∧ PySem.W.keepIn K (.ref f) = true ∧ Binds K fd ps []
def IniE (k : Nat) (C : Str) (g : Fn) : Prop := ∃ f fd ps, FnOk P w K mg base (L2.CX P w) k f fd ps (spOf K ps.length g) ∧ (∀ ds m, ds.length ≠ ps.length → g ds m = .stuck) ∧ Mk K (He.ga K C) f ∧ mg C = some (.ref (He.ga K C)) ∧ Binds K fd ps []
def MetE (k : Nat) (p : Str × Str) (g : Fn) : Prop := ∃ f fd ps, FnOk P w K mg base (L2.CX P w) k f fd ps (spOf K ps.length g) ∧ (∀ ds m, ds.length ≠ ps.length → g ds m = .stuck) ∧ Meth K (He.ga K p.1) p.2 f ∧ Cls K (He.ga K p.1) ∧ Binds K fd ps []
theorem mem_look {α β : Type} [BEq α] [LawfulBEq α] {a : α} {b : β} : ∀ {l : List (α × β)}, l.lookup a = some b → (a, b) ∈ l
  | [], h => by simp at h
  | (c, d) :: r, h => by
    by_cases e : a = c
    · subst e
      rw [List.lookup_cons_self] at h
      cases h
      exact List.mem_cons_self
    · rw [List.lookup_cons, show (a == c) = false by simpa using e] at h
      exact List.mem_cons_of_mem _ (mem_look h)
structure TbOk (t : Tb) : Prop where
  con : ∀ x d, t.con.lookup x = some d → ∃ u v, mg x = some u ∧ RelV v u ∧ ∀ φ F, Rep K φ F d v
  dcs : ∀ x l, t.dcs.lookup x = some l → dvsOk l = true ∧ He.valsB K (He.ga K x) l = true ∧ He.dicW K (He.ga K x) = some (He.keysIn w.params (l.map (·.1)))
  fld : ∀ C fs, t.fld.lookup C = some fs → Cls K (He.ga K C) ∧ ∀ f ∈ fs, NoAttr K (He.ga K C) f
  blt : ∀ x ∈ bltNames, mg x = none
  exc : ∀ x ∈ t.exc, ExcOk K mg x
  exm : ∀ x y b, t.exm.lookup (x, y) = some b → PySem.W.exmOne K (.ref (He.ga K x)) (.ref (He.ga K y)) = some b ∧ mg y = some (.ref (He.ga K y))
/-- a table of a list, one by one -/
def All {α : Type} (p : α → Prop) : List α → Prop
  | [] => True
  | a :: r => p a ∧ All p r
theorem All.mem {α : Type} {p : α → Prop} {a : α} : ∀ {l : List α}, All p l → a ∈ l → p a
  | [], _, h => by cases h
  | b :: r, ⟨h1, h2⟩, h => (List.mem_cons.mp h).elim (fun e => e ▸ h1) fun e => All.mem h2 e
end
section
variable {P : Program} {w : World} {K : PySem.W.Frag} {mg : Str → Option Value} {base : Heap}
theorem fn_stuck {k n : Nat} {f : Addr} {fd : FuncData} {ps : List Str} : FnOk P w K mg base (L2.CX P w) k f fd ps (spOf K ps.length fun _ _ => .stuck) :=
  ⟨fun vs H Q E h => h.1, fun A outer s H args us vs Q E _ _ _ _ ⟨_, _, _, _, _, _, _, z⟩ => z.elim⟩
theorem FnE.mono {j k : Nat} {x : Str} {g : Fn} (h : FnE P w K mg base j x g) (hk : j ≤ k) : FnE P w K mg base k x g := by
  obtain ⟨f, fd, ps, F, r⟩ := h
  exact ⟨f, fd, ps, F.mono hk, r⟩
theorem IniE.mono {j k : Nat} {x : Str} {g : Fn} (h : IniE P w K mg base j x g) (hk : j ≤ k) : IniE P w K mg base k x g := by
  obtain ⟨f, fd, ps, F, r⟩ := h
  exact ⟨f, fd, ps, F.mono hk, r⟩
theorem MetE.mono {j k : Nat} {x : Str × Str} {g : Fn} (h : MetE P w K mg base j x g) (hk : j ≤ k) : MetE P w K mg base k x g := by
  obtain ⟨f, fd, ps, F, r⟩ := h
  exact ⟨f, fd, ps, F.mono hk, r⟩
theorem gok {t : Tb} {fns inis : List (Str × Fn)} {mets : List ((Str × Str) × Fn)} {fuel k : Nat} {kin : Bool} (hw : WW.w = w) (b : TbOk w K mg t) (hf : All (fun p => FnE P w K mg base k p.1 p.2) fns) (hi : All (fun p => IniE P w K mg base k p.1 p.2) inis)
    (hm : All (fun p => MetE P w K mg base k p.1 p.2) mets) : GOk P w K mg base k (mkG t fns inis mets fuel kin) where
  ww := hw
  con := b.con
  dcs := fun x kvs h => by
    obtain ⟨l, hl, rfl⟩ := Option.map_eq_some_iff.mp (show (t.dcs.lookup x).map dvs = some kvs from h)
    obtain ⟨h1, h2, h3⟩ := b.dcs x l hl
    obtain ⟨es, n, D⟩ := He.dicW_ok h3
    refine ⟨es, n, D, fun z => ?_⟩
    have q := dvs_look (z := z) h1
    cases hz : (dvs l).lookup z with
    | none =>
      rw [hz] at q
      exact ⟨none, dic_none h3 q, rfl⟩
    | some d =>
      rw [hz] at q
      obtain ⟨v, q1, q2⟩ := q
      obtain ⟨u, q3, q4⟩ := He.valsB_ok h2 q1
      exact ⟨some u, q3, u, v.v K, rfl, q4, fun φ F => dv_rep q2 φ F⟩
  fn := fun x g h => (hf.mem (PySem.mem_of_lookup h) : FnE P w K mg base k x g)
  ini := fun x g h => (hi.mem (PySem.mem_of_lookup h) : IniE P w K mg base k x g)
  met := fun C n g h => All.mem (a := ((C, n), g)) hm (mem_look (show mets.lookup (C, n) = some g from h))
  fld := fun C f h => by
    have h : (match t.fld.lookup C with
      | some fs => decide (f ∈ fs)
      | none => false) = true := h
    split at h
    · rename_i fs e
      obtain ⟨h1, h2⟩ := b.fld C fs e
      exact ⟨h1, h2 f (of_decide_eq_true h)⟩
    · cases h
  blt := b.blt
  exc := fun x h => b.exc x (of_decide_eq_true h)
  exm := b.exm
end
end Mi

set_option Elab.async false
set_option linter.all false
set_option maxRecDepth 100000
set_option maxHeartbeats 4000000
/-! MiP: reasoning about the small language, in plain Lean. -/
namespace Mi
open PySem L2
/-! ### it ends well, with .. -/
@[irreducible] def Ok {α : Type} (r : Res α) (Q : α → Mem → Prop) : Prop := match r with
  | .ok a m => Q a m
  | _ => False
@[simp] theorem ok_ok {α : Type} {a : α} {m : Mem} {Q : α → Mem → Prop} : Ok (.ok a m) Q ↔ Q a m := by with_unfolding_all exact Iff.rfl
@[simp] theorem ok_stuck {α : Type} {Q : α → Mem → Prop} : Ok (.stuck : Res α) Q ↔ False := by with_unfolding_all exact Iff.rfl
theorem ok_bind {α β : Type} {r : Res α} {k : α → Mem → Res β} {Q : β → Mem → Prop} : Ok (r.bind k) Q ↔ Ok r fun a m => Ok (k a m) Q := by cases r <;> with_unfolding_all exact Iff.rfl
theorem ok_noExc {α : Type} {r : Res α} {Q : α → Mem → Prop} : Ok r.noExc Q ↔ Ok r Q := by cases r <;> with_unfolding_all exact Iff.rfl
theorem Ok.mono {α : Type} {r : Res α} {Q Q' : α → Mem → Prop} (h : Ok r Q) (i : ∀ a m, Q a m → Q' a m) : Ok r Q' := by
  with_unfolding_all
    cases r <;> first | exact h | exact i _ _ h
theorem Ok.of {α : Type} {r : Res α} {Q : α → Mem → Prop} (h : Ok r Q) : ∃ a m, r = .ok a m ∧ Q a m := by
  with_unfolding_all
    cases r with
    | ok a m => exact ⟨a, m, rfl, h⟩
    | _ => exact h.elim
theorem ok_eq {α : Type} {r : Res α} {a : α} {m : Mem} {Q : α → Mem → Prop} (h : r = .ok a m) (q : Q a m) : Ok r Q := by rw [h]; exact ok_ok.mpr q
@[simp] theorem ok_retO {α : Type} {o : Option α} {m : Mem} {Q : α → Mem → Prop} : Ok (retO o m) Q ↔ ∃ a, o = some a ∧ Q a m := by
  with_unfolding_all
    cases o with
    | none => exact ⟨fun h => h.elim, fun ⟨_, h, _⟩ => nomatch h⟩
    | some a => exact ⟨fun h => ⟨a, rfl, h⟩, fun ⟨_, h, q⟩ => by cases h; exact q⟩
theorem ok_ite {α : Type} {c : Prop} [Decidable c] {a b : Res α} {Q : α → Mem → Prop} : Ok (if c then a else b) Q ↔ if c then Ok a Q else Ok b Q := by
  split <;> exact Iff.rfl
/-! ### expressions -/
@[irreducible] def OkE (G : Gx) (c : CE) (e : EnvD) (m : Mem) (Q : D → Mem → Prop) : Prop := Ok (evalE G c e m) Q
@[irreducible] def OkL (G : Gx) (c : CEs) (e : EnvD) (m : Mem) (Q : List D → Mem → Prop) : Prop := Ok (evalL G c e m) Q
@[irreducible] def OkP (G : Gx) (c : CPs) (e : EnvD) (m : Mem) (Q : List (Key × D) → Mem → Prop) : Prop := Ok (evalP G c e m) Q
@[irreducible] def OkO (G : Gx) (c : CO) (e : EnvD) (m : Mem) (Q : Option Int → Mem → Prop) : Prop := Ok (evalO G c e m) Q
@[irreducible] def OkI (G : Gx) (c : CI) (e : EnvD) (m : Mem) (Q : Itd → Mem → Prop) : Prop := Ok (evalI G c e m) Q
/-- a test -/
@[irreducible] def OkB (G : Gx) (c : CE) (e : EnvD) (m : Mem) (Q : Bool → Mem → Prop) : Prop := Ok (asB (evalE G c e m)) Q
@[irreducible] def OkA (G : Gx) (c : CEs) (e : EnvD) (m : Mem) (Q : Bool → Mem → Prop) : Prop := Ok (evalAnd G c e m) Q
@[irreducible] def OkR (G : Gx) (c : CEs) (e : EnvD) (m : Mem) (Q : Bool → Mem → Prop) : Prop := Ok (evalOr G c e m) Q
theorem line_eq : line = 1000000 := rfl
theorem e_mono {G : Gx} {c : CE} {e : EnvD} {m : Mem} {Q Q' : D → Mem → Prop} (h : OkE G c e m Q) (i : ∀ d m, Q d m → Q' d m) : OkE G c e m Q' := by with_unfolding_all exact (Ok.mono h i)
section
variable {G : Gx} {e : EnvD} {m : Mem} {Q : D → Mem → Prop} {QB : Bool → Mem → Prop}
@[simp] theorem w_cst {d : D} : OkE G (.cst d) e m Q ↔ Q d m := by simp [OkE, evalE, ok_ok]
@[simp] theorem w_var {i : Nat} {x : Str} : OkE G (.var i x) e m Q ↔ ∃ d, e[i]? = some (some d) ∧ Q d m := by
  simp only [OkE, evalE]
  split
  · rename_i d h
    with_unfolding_all exact ⟨fun q => ⟨d, h, q⟩, fun ⟨d', h', q⟩ => by rw [h] at h'; cases h'; exact q⟩
  · rename_i h
    with_unfolding_all exact ⟨fun q => q.elim, fun ⟨d', h', q⟩ => (h d' h').elim⟩
@[simp] theorem w_glb {x : Str} : OkE G (.glb x) e m Q ↔ ∃ d, G.con x = some d ∧ Q d m := by simp only [OkE, evalE, ok_retO]
@[simp] theorem w_bin {o : Operator} {a b : CE} : OkE G (.bin o a b) e m Q ↔ OkE G a e m fun x m => OkE G b e m fun y m => Ok (binD o x y m) Q := by simp only [OkE, evalE, ok_bind]
@[simp] theorem w_neg {a : CE} : OkE G (.neg a) e m Q ↔ OkE G a e m fun x m => ∃ i, x = .int i ∧ Q (.int (-i)) m := by
  simp only [OkE, evalE, ok_bind]
  refine iff_of_eq (congrArg _ (funext fun x => funext fun m => ?_))
  cases x <;> simp [ok_ok, ok_stuck]
@[simp] theorem w_cmp {o : CmpOp} {a b : CE} : OkE G (.cmp o a b) e m Q ↔ OkE G a e m fun x m => OkE G b e m fun y m => Ok (cmpD G o x y m) Q := by simp only [OkE, evalE, ok_bind]
@[simp] theorem w_cmp2 {o o' : CmpOp} {a b c : CE} : OkE G (.cmp2 o o' a b c) e m Q ↔ OkE G a e m fun x m => OkE G b e m fun y m => Ok (asB (cmpD G o x y m)) fun k m => if k then OkE G c e m fun z m => Ok (cmpD G o' y z m) Q else Q (.bl false) m := by
  simp only [OkE, evalE, ok_bind, ok_ite, ok_ok]
@[simp] theorem w_and {es : CEs} : OkE G (.bop .And es) e m Q ↔ OkA G es e m fun b m => Q (.bl b) m := by simp only [OkE, OkA, evalE, ok_bind, ok_ok]
@[simp] theorem w_or {es : CEs} : OkE G (.bop .Or es) e m Q ↔ OkR G es e m fun b m => Q (.bl b) m := by simp only [OkE, OkR, evalE, ok_bind, ok_ok]
@[simp] theorem w_not {a : CE} : OkE G (.nott a) e m Q ↔ OkB G a e m fun b m => Q (.bl (!b)) m := by simp only [OkE, OkB, evalE, ok_bind, ok_ok]
@[simp] theorem w_ifx {t a b : CE} : OkE G (.ifx t a b) e m Q ↔ OkB G t e m fun k m => if k then OkE G a e m Q else OkE G b e m Q := by simp only [OkE, OkB, evalE, ok_bind, ok_ite]
@[simp] theorem w_tup {es : CEs} : OkE G (.tup es) e m Q ↔ OkL G es e m fun vs m => vs.length ≤ line ∧ Q (.tup vs) m := by
  with_unfolding_all
    simp only [OkE, OkL, evalE, ok_bind, ok_ite, ok_ok, ok_stuck]
    refine iff_of_eq (congrArg _ (funext fun x => funext fun m => ?_))
    split <;> simp [*]
@[simp] theorem w_lst {mu : Bool} {es : CEs} : OkE G (.lst mu es) e m Q ↔ OkL G es e m fun vs m => vs.length ≤ line ∧ Ok (newL mu vs m) Q := by
  with_unfolding_all
    simp only [OkE, OkL, evalE, ok_bind, ok_ite, ok_stuck]
    refine iff_of_eq (congrArg _ (funext fun x => funext fun m => ?_))
    split <;> simp [*]
@[simp] theorem w_dic {mu : Bool} {ps : CPs} : OkE G (.dic mu ps) e m Q ↔ OkP G ps e m fun ps m => ps.length ≤ 15 ∧ Ok (newK mu (ps.foldl (fun a p => putD a p.1 p.2) []) m) Q := by
  with_unfolding_all
    simp only [OkE, OkP, evalE, ok_bind, ok_ite, ok_stuck]
    refine iff_of_eq (congrArg _ (funext fun x => funext fun m => ?_))
    split <;> simp [*]
@[simp] theorem w_idx {a i : CE} : OkE G (.idx a i) e m Q ↔ OkE G a e m fun x m => OkE G i e m fun y m => Ok (idxD G x y m) Q := by simp only [OkE, evalE, ok_bind]
@[simp] theorem w_sli {a : CE} {lo hi : CO} : OkE G (.sli a lo hi) e m Q ↔ OkE G a e m fun x m => OkO G lo e m fun l m => OkO G hi e m fun h m => Ok (sliD x l h m) Q := by simp only [OkE, OkO, evalE, ok_bind]
@[simp] theorem w_rev {a : CE} : OkE G (.rev a) e m Q ↔ OkE G a e m fun x m => ∃ xs, getL m x = some xs ∧ Q (.lst xs.reverse) m := by
  simp only [OkE, evalE, ok_bind]
  refine iff_of_eq (congrArg _ (funext fun x => funext fun m => ?_))
  split <;> simp [*, ok_ok, ok_stuck]
@[simp] theorem w_blt {f : Bi} {es : CEs} : OkE G (.blt f es) e m Q ↔ OkL G es e m fun vs m => Ok (bltD f vs m) Q := by simp only [OkE, OkL, evalE, ok_bind]
@[simp] theorem w_lof {mu : Bool} {a : CE} : OkE G (.lof mu a) e m Q ↔ OkE G a e m fun x m => ∃ xs, lofD x m = some xs ∧ Ok (newL mu xs m) Q := by
  simp only [OkE, evalE, ok_bind]
  refine iff_of_eq (congrArg _ (funext fun x => funext fun m => ?_))
  split <;> simp [*, ok_stuck]
@[simp] theorem w_srs {a : CE} : OkE G (.srs a) e m Q ↔ OkE G a e m fun x m => Ok (srsD x m) Q := by simp only [OkE, evalE, ok_bind]
@[simp] theorem w_isi {a : CE} {o : Bool} {cs : List Tn} : OkE G (.isi a o cs) e m Q ↔ OkE G a e m fun x m => Ok (isiD x cs m) Q := by simp only [OkE, evalE, ok_bind]
@[simp] theorem w_mth {o : CE} {n : Me} {es : CEs} : OkE G (.mth o n es) e m Q ↔ OkE G o e m fun x m => kindOk n x m = true ∧ OkL G es e m fun vs m => Ok (mthD x n vs m) Q := by
  simp only [OkE, OkL, evalE, ok_bind, ok_ite, ok_stuck]
  refine iff_of_eq (congrArg _ (funext fun x => funext fun m => ?_))
  split <;> simp [*]
@[simp] theorem w_att {o : CE} {f : Str} : OkE G (.att o f) e m Q ↔ OkE G o e m fun x m => Ok (attD G x f m) Q := by simp only [OkE, evalE, ok_bind]
theorem w_call {f : Str} {es : CEs} {g : Fn} (hi : G.ini f = none) (h : G.fn f = some g) : OkE G (.call f es) e m Q ↔ OkL G es e m fun vs m => Ok (g vs m) Q := by simp only [OkE, OkL, evalE, hi, h, ok_bind]
theorem w_make {f : Str} {es : CEs} {g : Fn} (h : G.ini f = some g) : OkE G (.call f es) e m Q ↔ OkL G es e m fun vs m => Ok (g (.ptr m.length :: vs) (m ++ [.ins f []])) fun d m' => d = .non ∧ Q (.ptr m.length) m' := by
  simp only [OkE, OkL, evalE, h, makeD, ok_bind]
  refine iff_of_eq (congrArg _ (funext fun x => funext fun m => congrArg _ (funext fun d => funext fun m' => ?_)))
  cases d <;> simp [ok_ok, ok_stuck]
theorem w_own {o : CE} {C n : Str} {es : CEs} {g : Fn} (h : G.met C n = some g) : OkE G (.own o C n es) e m Q ↔ OkE G o e m fun x m => ∃ p fs, x = .ptr p ∧ m[p]? = some (.ins C fs) ∧ lookS fs n = none ∧ OkL G es e m fun vs m => Ok (g (.ptr p :: vs) m) Q := by
  simp only [OkE, OkL, evalE, h, ok_bind]
  refine iff_of_eq (congrArg _ (funext fun x => funext fun m => ?_))
  cases x with
  | ptr p =>
    simp only
    split
    · rename_i C' fs hc
      by_cases hq : C' = C ∧ lookS fs n = none
      · rw [if_pos hq]
        obtain ⟨rfl, hq⟩ := hq
        simp [ok_bind, hc, hq]
      · rw [if_neg hq]
        simp only [ok_stuck, D.ptr.injEq, false_iff, eq_iff_iff]
        rintro ⟨p', fs', rfl, h1, h2, _⟩
        rw [hc] at h1
        cases h1
        exact hq ⟨rfl, h2⟩
    · rename_i hc
      simp only [ok_stuck, false_iff, eq_iff_iff]
      rintro ⟨p', fs', e1, h1, _⟩
      cases e1
      exact hc _ _ h1
  | _ => simp [ok_stuck]
@[simp] theorem w_lc {mu : Bool} {elt : CE} {t : CT} {it : CI} {ifs : CEs} {ow : List (Str × Nat)} : OkE G (.lc mu elt t it ifs ow) e m Q ↔ OkI G it e m fun J m => Ok (lcIt (lcBody G elt t ifs (wipeE e (ow.map (·.2)))) J m) fun xs m => Ok (newL mu xs m) Q := by
  simp only [OkE, OkI, evalE, ok_bind]
  rfl
@[simp] theorem w_nil {Q : List D → Mem → Prop} : OkL G .nil e m Q ↔ Q [] m := by simp [OkL, evalL, ok_ok]
@[simp] theorem w_cons {a : CE} {es : CEs} {Q : List D → Mem → Prop} : OkL G (.cons a es) e m Q ↔ OkE G a e m fun x m => OkL G es e m fun vs m => Q (x :: vs) m := by simp only [OkE, OkL, evalL, ok_bind, ok_ok]
@[simp] theorem w_pnil {Q : List (Key × D) → Mem → Prop} : OkP G .nil e m Q ↔ Q [] m := by simp [OkP, evalP, ok_ok]
@[simp] theorem w_pcons {a b : CE} {es : CPs} {Q : List (Key × D) → Mem → Prop} : OkP G (.cons a b es) e m Q ↔ OkE G a e m fun x m => OkE G b e m fun y m => ∃ k, kD x = some k ∧ OkP G es e m fun vs m => Q ((k, y) :: vs) m := by
  simp only [OkE, OkP, evalP, ok_bind]
  refine iff_of_eq (congrArg _ (funext fun x => funext fun m => congrArg _ (funext fun y => funext fun m => ?_)))
  split <;> simp [*, ok_bind, ok_ok, ok_stuck]
@[simp] theorem w_no {Q : Option Int → Mem → Prop} : OkO G .no e m Q ↔ Q none m := by simp [OkO, evalO, ok_ok]
@[simp] theorem w_yes {a : CE} {Q : Option Int → Mem → Prop} : OkO G (.yes a) e m Q ↔ OkE G a e m fun x m => ∃ i, x = .int i ∧ Q (some i) m := by
  simp only [OkO, OkE, evalO, ok_bind, ok_retO]
  refine iff_of_eq (congrArg _ (funext fun x => funext fun m => ?_))
  cases x <;> simp [partD]
@[simp] theorem w_anil : OkA G .nil e m QB ↔ QB true m := by simp [OkA, evalAnd, ok_ok]
@[simp] theorem w_acons {a : CE} {es : CEs} : OkA G (.cons a es) e m QB ↔ OkB G a e m fun b m => if b then OkA G es e m QB else QB false m := by simp only [OkA, OkB, evalAnd, ok_bind, ok_ite, ok_ok]
@[simp] theorem w_onil : OkR G .nil e m QB ↔ QB false m := by simp [OkR, evalOr, ok_ok]
@[simp] theorem w_ocons {a : CE} {es : CEs} : OkR G (.cons a es) e m QB ↔ OkB G a e m fun b m => if b then QB true m else OkR G es e m QB := by simp only [OkR, OkB, evalOr, ok_bind, ok_ite, ok_ok]
@[simp] theorem w_test {a : CE} : OkB G a e m QB ↔ OkE G a e m fun d m => ∃ b, d = .bl b ∧ QB b m := by
  simp only [OkB, OkE, asB, ok_bind, ok_retO]
  refine iff_of_eq (congrArg _ (funext fun x => funext fun m => ?_))
  cases x <;> simp [blD]
@[simp] theorem ok_asB {r : Res D} : Ok (asB r) QB ↔ Ok r fun d m => ∃ b, d = .bl b ∧ QB b m := by
  simp only [asB, ok_bind, ok_retO]
  refine iff_of_eq (congrArg _ (funext fun x => funext fun m => ?_))
  cases x <;> simp [blD]
@[simp] theorem w_rng1 {a : CE} {Q : Itd → Mem → Prop} : OkI G (.rng1 a) e m Q ↔ OkE G a e m fun x m => ∃ j ds, x = .int j ∧ rngD 0 j = some ds ∧ Q (.fix ds) m := by
  simp only [OkI, OkE, evalI, ok_bind]
  refine iff_of_eq (congrArg _ (funext fun x => funext fun m => ?_))
  cases x <;> simp [ok_stuck, ok_retO]
  exact ⟨fun ⟨_, ⟨a, h, e⟩, q⟩ => ⟨a, h, e ▸ q⟩, fun ⟨a, h, q⟩ => ⟨_, ⟨a, h, rfl⟩, q⟩⟩
@[simp] theorem w_rng2 {a b : CE} {Q : Itd → Mem → Prop} : OkI G (.rng2 a b) e m Q ↔ OkE G a e m fun x m => OkE G b e m fun y m => ∃ i j ds, x = .int i ∧ y = .int j ∧ rngD i j = some ds ∧ Q (.fix ds) m := by
  simp only [OkI, OkE, evalI, ok_bind]
  refine iff_of_eq (congrArg _ (funext fun x => funext fun m => congrArg _ (funext fun y => funext fun m => ?_)))
  cases x <;> cases y <;> simp [ok_stuck, ok_retO]
  exact ⟨fun ⟨_, ⟨a, h, e⟩, q⟩ => ⟨a, h, e ▸ q⟩, fun ⟨a, h, q⟩ => ⟨_, ⟨a, h, rfl⟩, q⟩⟩
@[simp] theorem w_seq {a : CE} {Q : Itd → Mem → Prop} : OkI G (.seq a) e m Q ↔ OkE G a e m fun x m => ∃ J, itSeq x m = some J ∧ Q J m := by simp only [OkI, OkE, evalI, ok_bind, ok_retO]
@[simp] theorem w_zip {a b : CE} {Q : Itd → Mem → Prop} : OkI G (.zip a b) e m Q ↔ OkE G a e m fun x m => OkE G b e m fun y m => ∃ xs ys, seqD x = some xs ∧ seqD y = some ys ∧ Q (.fix (zipD xs ys)) m := by
  simp only [OkI, OkE, evalI, ok_bind]
  refine iff_of_eq (congrArg _ (funext fun x => funext fun m => congrArg _ (funext fun y => funext fun m => ?_)))
  split <;> simp_all [ok_stuck, ok_ok]
@[simp] theorem w_revI {a : CE} {Q : Itd → Mem → Prop} : OkI G (.rev a) e m Q ↔ OkE G a e m fun x m => ∃ xs, (x = .tup xs ∨ x = .lst xs) ∧ Q (.fix xs.reverse) m := by
  simp only [OkI, OkE, evalI, ok_bind]
  refine iff_of_eq (congrArg _ (funext fun x => funext fun m => ?_))
  cases x <;> simp [ok_stuck, ok_ok]
end
/-! ### statements -/
structure Po where
  nx : EnvD → Mem → Prop
  rt : D → Mem → Prop
  bk : EnvD → Mem → Prop := fun _ _ => False
  ct : EnvD → Mem → Prop := fun _ _ => False
  ex : Exn → Mem → Prop := fun _ _ => False
def Oo (o : Out) (D : Po) : Prop := match o with
  | .nxt e m => D.nx e m
  | .ret d m => D.rt d m
  | .brk e m => D.bk e m
  | .cnt e m => D.ct e m
  | .exc x _ m => D.ex x m
  | .stuck => False
@[irreducible] def OS (G : Gx) (s : CS) (e : EnvD) (m : Mem) (D : Po) : Prop := Oo (execS G s e m) D
@[irreducible] def OSs (G : Gx) (s : CSs) (e : EnvD) (m : Mem) (D : Po) : Prop := Oo (execL G s e m) D
theorem Oo.mono {o : Out} {D D' : Po} (h : Oo o D) (h1 : ∀ e m, D.nx e m → D'.nx e m) (h2 : ∀ d m, D.rt d m → D'.rt d m) (h3 : ∀ e m, D.bk e m → D'.bk e m) (h4 : ∀ e m, D.ct e m → D'.ct e m) (h5 : ∀ x m, D.ex x m → D'.ex x m := by exact fun _ _ h => h) : Oo o D' := by
  cases o with
  | nxt e m => exact h1 _ _ h
  | ret d m => exact h2 _ _ h
  | brk e m => exact h3 _ _ h
  | cnt e m => exact h4 _ _ h
  | exc x e m => exact h5 _ _ h
  | stuck => exact h
theorem oo_out {α : Type} {r : Res α} {e : EnvD} {k : α → Mem → Out} {D : Po} (h : Ok r fun a m => Oo (k a m) D) : Oo (r.out e k) D := by
  with_unfolding_all
    cases r with
    | ok a m => exact h
    | _ => exact h.elim
section
variable {G : Gx} {e : EnvD} {m : Mem} {D : Po}
theorem s_nil (h : D.nx e m) : OSs G .nil e m D := by with_unfolding_all exact (h)
theorem s_next {ss : CSs} {rt : Mi.D → Mem → Prop} {bk ct : EnvD → Mem → Prop} {ex : Exn → Mem → Prop} (h : OSs G ss e m D) : OSs G .nil e m { nx := fun e m => OSs G ss e m D, rt := rt, bk := bk, ct := ct, ex := ex } := by with_unfolding_all exact (h)
theorem s_cons {s : CS} {ss : CSs} (h : OS G s e m { D with nx := fun e m => OSs G ss e m D }) : OSs G (.cons s ss) e m D := by
  with_unfolding_all
    unfold OSs
    unfold OS at h
    rw [execL]
    generalize execS G s e m = o at h
    cases o <;> exact h
/-- where the roads meet -/
theorem s_cut {s : CS} (N : EnvD → Mem → Prop) (h : OS G s e m { D with nx := N }) (q : ∀ e m, N e m → D.nx e m) : OS G s e m D := by with_unfolding_all exact (
  Oo.mono h q (fun _ _ h => h) (fun _ _ h => h) (fun _ _ h => h))
theorem s_last {s : CS} (h : OS G s e m D) : OSs G (.cons s .nil) e m D := by with_unfolding_all exact (s_cons h)
theorem s_exp {a : CE} (h : OkE G a e m fun _ m => D.nx e m) : OS G (.exp a) e m D := by with_unfolding_all exact (oo_out h)
theorem s_asg {t : CT} {a : CE} (h : OkE G a e m fun x m => ∃ e', bindT t x m e = some e' ∧ D.nx e' m) : OS G (.asg t a) e m D := by with_unfolding_all exact (
  oo_out (Ok.mono h fun x m ⟨e', h1, h2⟩ => by rw [h1]; exact h2))
theorem s_set {i : Nat} {x : Str} {a : CE} (h : OkE G a e m fun d m => D.nx (e.set i (some d)) m) : OS G (.asg (.nam i x) a) e m D := by with_unfolding_all exact (
  s_asg (Ok.mono h fun d m q => ⟨_, rfl, q⟩))
theorem s_sub {o i a : CE} (h : OkE G a e m fun d m => OkE G o e m fun x m => OkE G i e m fun y m => ∃ m', setItemD x y d m = some m' ∧ D.nx e m') : OS G (.sub o i a) e m D := by with_unfolding_all exact (
  oo_out (Ok.mono h fun d m q => oo_out (Ok.mono q fun x m q => oo_out (Ok.mono q fun y m ⟨m', h1, h2⟩ => by rw [h1]; exact h2))))
theorem s_att {o a : CE} {f : Str} (h : OkE G a e m fun d m => OkE G o e m fun x m => ∃ m', setAttD G x f d m = some m' ∧ D.nx e m') : OS G (.att o f a) e m D := by with_unfolding_all exact (
  oo_out (Ok.mono h fun d m q => oo_out (Ok.mono q fun x m ⟨m', h1, h2⟩ => by rw [h1]; exact h2)))
theorem s_par {i j : Nat} {x y : Str} {a b : CE} (h : OkE G a e m fun u m => OkE G b e m fun v m => D.nx ((e.set i (some u)).set j (some v)) m) : OS G (.par i j x y a b) e m D := by with_unfolding_all exact (
  oo_out (Ok.mono h fun u m q => oo_out (Ok.mono q fun v m q => q)))
theorem s_ret {a : CE} (h : OkE G a e m D.rt) : OS G (.ret a) e m D := by with_unfolding_all exact (oo_out (Ok.mono h fun u m q => q))
theorem s_retN (h : D.rt .non m) : OS G .retN e m D := by with_unfolding_all exact (h)
theorem s_ite {t : CE} {a b : CSs} (h : OkB G t e m fun k m => if k then OSs G a e m D else OSs G b e m D) : OS G (.ite t a b) e m D := by with_unfolding_all exact (
  oo_out (Ok.mono h fun k m q => by cases k <;> exact q))
theorem s_pas (h : D.nx e m) : OS G .pas e m D := by with_unfolding_all exact (h)
theorem s_brk (h : D.bk e m) : OS G .brk e m D := by with_unfolding_all exact (h)
theorem s_cnt (h : D.ct e m) : OS G .cnt e m D := by with_unfolding_all exact (h)
/-- a loop over known items, I by the items left -/
theorem s_forFix {body : Mi.D → EnvD → Mem → Out} (I : List Mi.D → EnvD → Mem → Prop) : ∀ {ds : List Mi.D} {e : EnvD} {m : Mem}, I ds e m → (∀ d r e m, I (d :: r) e m → Oo (body d e m) { D with nx := I r, ct := I r, bk := D.nx }) → (∀ e m, I [] e m → D.nx e m) → Oo (forFix body ds e m) D
  | [], e, m, h, _, hd => hd e m h
  | d :: r, e, m, h, hs, hd => by
    have q := hs d r e m h
    rw [forFix]
    generalize body d e m = o at q
    cases o with
    | nxt e m => exact s_forFix I q hs hd
    | cnt e m => exact s_forFix I q hs hd
    | brk e m => exact q
    | ret d m => exact q
    | exc x e m => exact q
    | stuck => exact q.elim
theorem s_for {t : CT} {it : CI} {b : CSs} (I : List Mi.D → EnvD → Mem → Prop) (h : OkI G it e m fun J m => ∃ ds, J = .fix ds ∧ I ds e m)
    (hs : ∀ d r e m, I (d :: r) e m → ∃ e', bindT t d m e = some e' ∧ OSs G b e' m { D with nx := I r, ct := I r, bk := D.nx }) (hd : ∀ e m, I [] e m → D.nx e m) : OS G (.loop t it b) e m D := by with_unfolding_all exact (
  oo_out (Ok.mono h fun J m ⟨ds, e1, q⟩ => by
    subst e1
    refine s_forFix I q (fun d r e m hI => ?_) hd
    obtain ⟨e', h1, h2⟩ := hs d r e m hI
    rw [h1]
    exact h2))
end
theorem rng_eq {i j : Int} (h1 : -(2 ^ 62) ≤ i) (h2 : i < 2 ^ 62) (h3 : -(2 ^ 62) ≤ j) (h4 : j < 2 ^ 62) : rngD i j = some ((List.range (j - i).toNat).map fun k => .int (i + (k : Nat))) := if_pos ⟨h1, h2, h3, h4⟩
/-! ### comprehensions over known items -/
theorem lc_fix {body : D → Mem → Res (Option D)} (I : List D → List D → Mem → Prop) {Q : List D → Mem → Prop} : ∀ {ds acc : List D} {m : Mem}, I ds acc m →
    (∀ d r acc m, I (d :: r) acc m → Ok (body d m) fun o m => match o with
      | some x => acc.length < line ∧ I r (acc ++ [x]) m
      | none => I r acc m) → (∀ acc m, I [] acc m → Q acc m) → Ok (lcIt body (.fix ds) m) Q → True := fun _ _ _ _ => trivial
theorem lc_go {body : D → Mem → Res (Option D)} (I : List D → List D → Mem → Prop) {Q : List D → Mem → Prop} (hs : ∀ d r acc m, I (d :: r) acc m → Ok (body d m) fun o m => match o with
      | some x => acc.length < line ∧ I r (acc ++ [x]) m
      | none => I r acc m) (hd : ∀ acc m, I [] acc m → Q acc m) : ∀ {ds acc : List D} {m : Mem}, I ds acc m → Ok (lcFix body ds acc m) Q
  | [], acc, m, h => by with_unfolding_all exact hd acc m h
  | d :: r, acc, m, h => by
    rw [lcFix, ok_bind]
    refine Ok.mono (hs d r acc m h) fun o m q => ?_
    cases o with
    | none => exact lc_go I hs hd q
    | some x =>
      simp only
      rw [if_pos q.1]
      exact lc_go I hs hd q.2
theorem lc_body {G : Gx} {elt : CE} {t : CT} {ifs : CEs} {e e' : EnvD} {d : D} {m : Mem} {Q : Option D → Mem → Prop} (hb : bindT t d m e = some e') (h : OkA G ifs e' m fun b m => if b then OkE G elt e' m fun d m => Q (some d) m else Q none m) : Ok (lcBody G elt t ifs e d m) Q := by
  unfold lcBody
  rw [hb]
  simp only [ok_bind, ok_noExc, ok_ite, ok_ok]
  with_unfolding_all exact h
/-- a comprehension that keeps the memory: each item kept or not, and made -/
theorem lc_pure {body : D → Mem → Res (Option D)} {f : D → Option D} {m : Mem} {Q : List D → Mem → Prop} {ds : List D} (hf : ∀ d ∈ ds, body d m = .ok (f d) m) (hl : ds.length < line) (q : Q (ds.filterMap f) m) : Ok (lcIt body (.fix ds) m) Q := by
  show Ok (lcFix body ds [] m) Q
  have go : ∀ (ds acc : List D), (∀ d ∈ ds, body d m = .ok (f d) m) → acc.length + ds.length < line → lcFix body ds acc m = .ok (acc ++ ds.filterMap f) m := by
    intro ds
    induction ds with
    | nil => intro acc _ _; simp [lcFix]
    | cons d r ih =>
      intro acc h hl
      rw [lcFix, h d List.mem_cons_self, Res.bind_ok]
      rw [List.length_cons] at hl
      cases hx : f d with
      | none =>
        simp only
        rw [ih acc (fun x hx => h x (List.mem_cons_of_mem _ hx)) (by omega), List.filterMap_cons, hx]
      | some x =>
        simp only
        rw [if_pos (by omega), ih (acc ++ [x]) (fun x hx => h x (List.mem_cons_of_mem _ hx)) (by rw [List.length_append, List.length_singleton]; omega), List.filterMap_cons, hx]
        simp
  rw [go ds [] hf (by simpa using hl)]
  with_unfolding_all exact q
theorem lc_none {body : D → Mem → Res (Option D)} {m : Mem} {Q : List D → Mem → Prop} {ds : List D} (hf : ∀ d ∈ ds, body d m = .ok none m) (q : Q [] m) : Ok (lcIt body (.fix ds) m) Q := by
  show Ok (lcFix body ds [] m) Q
  have go : ∀ ds : List D, (∀ d ∈ ds, body d m = .ok none m) → lcFix body ds [] m = .ok [] m := by
    intro ds
    induction ds with
    | nil => intro _; rfl
    | cons d r ih =>
      intro h
      rw [lcFix, h d List.mem_cons_self, Res.bind_ok]
      exact ih fun x hx => h x (List.mem_cons_of_mem _ hx)
  rw [go ds hf]
  with_unfolding_all exact q
theorem lc_map {body : D → Mem → Res (Option D)} {f : D → D} {m : Mem} {Q : List D → Mem → Prop} {ds : List D} (hf : ∀ d ∈ ds, body d m = .ok (some (f d)) m) (hl : ds.length < line) (q : Q (ds.map f) m) : Ok (lcIt body (.fix ds) m) Q :=
  lc_pure (f := fun d => some (f d)) hf hl (by rw [List.filterMap_eq_map']; exact q)
theorem lc_mapF {α : Type} {body : D → Mem → Res (Option D)} {f g : α → D} {m : Mem} {Q : List D → Mem → Prop} {l : List α} (hf : ∀ a ∈ l, body (f a) m = .ok (some (g a)) m) (hl : l.length < line) (q : Q (l.map g) m) : Ok (lcIt body (.fix (l.map f)) m) Q := by
  show Ok (lcFix body (l.map f) [] m) Q
  have go : ∀ (l : List α) (acc : List D), (∀ a ∈ l, body (f a) m = .ok (some (g a)) m) → acc.length + l.length < line → lcFix body (l.map f) acc m = .ok (acc ++ l.map g) m := by
    intro l
    induction l with
    | nil => intro acc _ _; simp [lcFix]
    | cons d r ih =>
      intro acc h hl
      rw [List.length_cons] at hl
      rw [List.map_cons, lcFix, h d List.mem_cons_self, Res.bind_ok]
      simp only
      rw [if_pos (by omega), ih (acc ++ [g d]) (fun x hx => h x (List.mem_cons_of_mem _ hx)) (by rw [List.length_append, List.length_singleton]; omega)]
      simp
  rw [go l [] hf (by simpa using hl)]
  with_unfolding_all exact q
theorem lc_filtF {α : Type} {body : D → Mem → Res (Option D)} {f : α → D} {p : α → Bool} {m : Mem} {Q : List D → Mem → Prop} {l : List α} (hf : ∀ a ∈ l, body (f a) m = .ok (if p a then some (f a) else none) m) (hl : l.length < line) (q : Q ((l.filter p).map f) m) : Ok (lcIt body (.fix (l.map f)) m) Q := by
  show Ok (lcFix body (l.map f) [] m) Q
  have go : ∀ (l : List α) (acc : List D), (∀ a ∈ l, body (f a) m = .ok (if p a then some (f a) else none) m) → acc.length + l.length < line → lcFix body (l.map f) acc m = .ok (acc ++ (l.filter p).map f) m := by
    intro l
    induction l with
    | nil => intro acc _ _; simp [lcFix]
    | cons d r ih =>
      intro acc h hl
      rw [List.length_cons] at hl
      rw [List.map_cons, lcFix, h d List.mem_cons_self, Res.bind_ok]
      by_cases hp : p d = true
      · rw [if_pos hp]
        simp only
        rw [if_pos (by omega), ih (acc ++ [f d]) (fun x hx => h x (List.mem_cons_of_mem _ hx)) (by rw [List.length_append, List.length_singleton]; omega), List.filter_cons, if_pos hp]
        simp
      · rw [if_neg hp]
        simp only
        rw [ih acc (fun x hx => h x (List.mem_cons_of_mem _ hx)) (by omega), List.filter_cons, if_neg hp]
  rw [go l [] hf (by simpa using hl)]
  with_unfolding_all exact q
/-- a comprehension whose turns change the memory: every item is made -/
theorem lc_all {body : D → Mem → Res (Option D)} (P : D → Prop) (I : Mem → Prop) {Q : List D → Mem → Prop} {ds : List D} {m : Mem} (h0 : I m) (hs : ∀ d ∈ ds, ∀ m, I m → Ok (body d m) fun o m' => I m' ∧ ∃ x, o = some x ∧ P x) (hl : ds.length < line)
    (hd : ∀ xs m, I m → xs.length = ds.length → (∀ x ∈ xs, P x) → Q xs m) : Ok (lcIt body (.fix ds) m) Q := by
  show Ok (lcFix body ds [] m) Q
  refine lc_go (fun r acc m => I m ∧ (∀ x ∈ acc, P x) ∧ acc.length + r.length = ds.length ∧ ∀ d ∈ r, d ∈ ds) (fun d r acc m ⟨h1, h2, h3, h4⟩ => ?_) (fun acc m ⟨h1, h2, h3, _⟩ => hd acc m h1 (by simpa using h3) h2) ⟨h0, fun _ h => (by cases h), by simp, fun _ h => h⟩
  refine Ok.mono (hs d (h4 d List.mem_cons_self) m h1) fun o m' ⟨q1, x, e, q2⟩ => ?_
  subst e
  simp only
  rw [List.length_cons] at h3
  refine ⟨by omega, q1, fun y hy => ?_, by rw [List.length_append, List.length_singleton]; omega, fun d hd => h4 d (List.mem_cons_of_mem _ hd)⟩
  rcases List.mem_append.mp hy with e | e
  · exact h2 y e
  · rw [List.mem_singleton.mp e]; exact q2
theorem rng6 : rngD 0 6 = some (([0, 1, 2, 3, 4, 5] : List Int).map .int) := by
  rw [rng_eq (by omega) (by omega) (by omega) (by omega)]
  rfl
theorem lc_livF {α : Type} {body : D → Mem → Res (Option D)} {f g : α → D} {m : Mem} {n : Nat} {Q : List D → Mem → Prop} {l : List α} (hm : m[n]? = some (.lst (l.map f))) (hf : ∀ a ∈ l, body (f a) m = .ok (some (g a)) m) (hl : l.length < line) (q : Q (l.map g) m) : Ok (lcIt body (.liv n) m) Q := by
  show Ok (lcLiv body n line 0 [] m) Q
  have go : ∀ (k i : Nat) (acc : List D), l.length ≤ i + k → i ≤ l.length → acc.length = i → lcLiv body n k i acc m = .ok (acc ++ (l.drop i).map g) m := by
    intro k
    induction k with
    | zero =>
      intro i acc h1 h2 h3
      rw [lcLiv_eq, hm]
      have : i = l.length := by omega
      subst this
      simp
    | succ k ih =>
      intro i acc h1 h2 h3
      rw [lcLiv_eq, hm]
      simp only [List.getElem?_map]
      by_cases hi : i < l.length
      · rw [List.getElem?_eq_getElem hi]
        simp only [Option.map_some]
        rw [hf _ (List.getElem_mem hi), Res.bind_ok]
        simp only
        rw [if_pos (by omega), ih (i + 1) _ (by omega) (by omega) (by simp [h3]), List.drop_eq_getElem_cons hi]
        simp only [List.map_cons, List.append_assoc, List.singleton_append]
      · have : i = l.length := by omega
        subst this
        simp
  rw [go line 0 [] (by omega) (Nat.zero_le _) rfl]
  have e : [] ++ (l.drop 0).map g = l.map g := by simp
  rw [e]
  with_unfolding_all exact q
/-! ### defs -/
def Pd (n : Nat) (Q : D → Mem → Prop) : Po where
  nx := fun _ m => Ok (settle n .non m) Q
  rt := fun d m => Ok (settle n d m) Q
@[simp] theorem pd_nx {n : Nat} {Q : D → Mem → Prop} {e : EnvD} {m : Mem} : (Pd n Q).nx e m ↔ Ok (settle n .non m) Q := Iff.rfl
@[simp] theorem pd_rt {n : Nat} {Q : D → Mem → Prop} {d : D} {m : Mem} : (Pd n Q).rt d m ↔ Ok (settle n d m) Q := Iff.rfl
theorem def_go {G : Gx} {b : CSs} {n s : Nat} {ds : List D} {m : Mem} {Q : D → Mem → Prop} (hl : ds.length = n)
    (h : OSs G b (ds.map some ++ List.replicate (s - ds.length) none) m (Pd m.length Q)) : Ok (runDef G b n s ds m) Q := by
  with_unfolding_all
    unfold runDef
    rw [if_pos hl]
    unfold OSs at h
    generalize execL G b (ds.map some ++ List.replicate (s - ds.length) none) m = o at h
    cases o <;> exact h
theorem settle_at {d : D} {m : Mem} {n : Nat} {Q : D → Mem → Prop} (h : m.length = n) : Ok (settle n d m) Q ↔ Q d m := by
  with_unfolding_all
    unfold settle
    rw [if_pos h]
    rfl
theorem settle_same {d : D} {m m' : Mem} {Q : D → Mem → Prop} (h : m'.length = m.length) (q : Q d m') : Ok (settle m.length d m') Q := by
  unfold settle
  rw [if_pos h]
  with_unfolding_all exact q
/-! ### what is equal -/
theorem getL_of {m : Mem} {x : D} {xs : List D} (h : getL m x = some xs) : x = .lst xs ∨ ∃ p, x = .ptr p ∧ m[p]? = some (.lst xs) := by
  cases x with
  | lst ys => cases h; exact .inl rfl
  | ptr p =>
    simp only [getL] at h
    split at h
    · rename_i ys e
      cases h
      exact .inr ⟨p, rfl, e⟩
    · cases h
  | _ => cases h
theorem pyM_of {m : Mem} {x : D} {xs : List D} (h : getL m x = some xs) : x.pyM m = (D.pys? xs).map .list := by
  rcases getL_of h with rfl | ⟨p, rfl, e⟩
  · rfl
  · simp only [D.pyM, e]
theorem eqM_lists {m : Mem} {x y : D} {xs ys : List D} (h1 : getL m x = some xs) (h2 : getL m y = some ys) : eqM m x y = if xs.length ≠ ys.length then some false else eqP m x y := by
  have e : lenNe m x y = decide (xs.length ≠ ys.length) := by unfold lenNe; rw [h1, h2]
  have q : eqM m x y = if lenNe m x y then some false else eqP m x y := by
    unfold eqM
    split <;> first | rfl | (cases h1; done) | (cases h2; done)
  rw [q, e]
  by_cases hl : xs.length ≠ ys.length
  · rw [if_pos (by simpa using hl), if_pos hl]
  · rw [if_neg (by simpa using hl), if_neg hl]
theorem eq_nil {m : Mem} {x : D} {xs : List D} (h : getL m x = some xs) : eqM m x (.lst []) = some xs.isEmpty := by
  rw [eqM_lists h (ys := []) rfl]
  cases xs with
  | nil =>
    rw [if_neg (by simp)]
    unfold eqP
    rw [pyM_of h]
    rfl
  | cons a r => rw [if_pos (by simp)]; rfl
@[simp] theorem eq_lnil {m : Mem} {xs : List D} : eqM m (.lst xs) (.lst []) = some xs.isEmpty := eq_nil rfl
@[simp] theorem eq_tnil {m : Mem} {xs : List D} : eqM m (.tup xs) (.tup []) = some xs.isEmpty := by
  cases xs <;> rfl
@[simp] theorem eq_str {m : Mem} {a b : Str} : eqM m (.str a) (.str b) = some (decide (a = b)) := rfl
@[simp] theorem eq_int {m : Mem} {a b : Int} : eqM m (.int a) (.int b) = some (decide (a = b)) := rfl
@[simp] theorem eq_bl {m : Mem} {a b : Bool} : eqM m (.bl a) (.bl b) = some (decide (a = b)) := rfl
theorem ints_py : ∀ l : List Int, D.pys? (l.map .int) = some (l.map PyData.int)
  | [] => rfl
  | i :: l => by simp [D.pys?, D.py?, ints_py l]
theorem strs_py : ∀ l : List Str, D.pys? (l.map .str) = some (l.map PyData.str)
  | [] => rfl
  | i :: l => by simp [D.pys?, D.py?, strs_py l]
theorem lay_ints : ∀ l : List Int, PyData.canLayAll0 (l.map PyData.int) = true
  | [] => rfl
  | i :: l => by simp [PyData.canLayAll0, PyData.canLay0, lay_ints l]
theorem dep_ints : ∀ l : List Int, PyData.depthAll (l.map PyData.int) = 0
  | [] => rfl
  | i :: l => by simp [PyData.depthAll, PyData.depth, dep_ints l]
theorem shaped_ints (l : List Int) : SeqAt.shaped (.list (l.map PyData.int)) = true := by
  simp [SeqAt.shaped, PyData.canLay0, PyData.depth, lay_ints, dep_ints]
theorem eqv_ints : ∀ l k : List Int, PyData.eqvAll (l.map PyData.int) (k.map PyData.int) = decide (l = k)
  | [], [] => rfl
  | [], _ :: _ => rfl
  | _ :: _, [] => rfl
  | i :: l, j :: k => by
    rw [Bool.eq_iff_iff]
    simp [PyData.eqvAll, PyData.eqv, eqv_ints l k]
theorem eq_ints {m : Mem} {x y : D} {l k : List Int} (h1 : getL m x = some (l.map .int)) (h2 : getL m y = some (k.map .int)) : eqM m x y = some (decide (l = k)) := by
  rw [eqM_lists h1 h2]
  by_cases hl : l.length = k.length
  · rw [if_neg (by simpa using hl)]
    unfold eqP
    rw [pyM_of h1, pyM_of h2, ints_py, ints_py]
    simp [shaped_ints, PyData.eqv, eqv_ints]
  · rw [if_pos (by simpa using hl)]
    have : l ≠ k := fun e => hl (by rw [e])
    simp [this]
theorem any_ints {m : Mem} {i : Int} {l : List Int} : anyEq m (.int i) (l.map .int) = some (decide (i ∈ l)) := by
  unfold anyEq
  have h1 : (D.int i).pyM m = some (.int i) := rfl
  rw [h1, ints_py]
  simp only [shaped_ints]
  have h2 : SeqAt.shaped (.int i) = true := by simp [SeqAt.shaped, PyData.canLay0, PyData.depth]
  rw [h2]
  simp only [Bool.and_self, if_true, Option.some.injEq]
  rw [Bool.eq_iff_iff]
  simp only [List.any_eq_true, decide_eq_true_eq, List.mem_map]
  constructor
  · rintro ⟨_, ⟨j, hj, rfl⟩, h⟩
    have : j = i := by simpa [PyData.eqv] using h
    exact this ▸ hj
  · exact fun h => ⟨_, ⟨i, h, rfl⟩, by simp [PyData.eqv]⟩
theorem any_strs {m : Mem} {x : Str} {l : List Str} (hx : PyData.strOk x = true) (hl : ∀ y ∈ l, PyData.strOk y = true) : anyEq m (.str x) (l.map .str) = some (decide (x ∈ l)) := by
  have hall : PyData.canLayAll0 (l.map PyData.str) = true := by
    induction l with
    | nil => rfl
    | cons y l ih => simp [PyData.canLayAll0, PyData.canLay0, hl y List.mem_cons_self, ih fun z hz => hl z (List.mem_cons_of_mem _ hz)]
  have hdep : PyData.depthAll (l.map PyData.str) = 0 := by
    clear hall hl
    induction l with
    | nil => rfl
    | cons y l ih => simp [PyData.depthAll, PyData.depth, ih]
  unfold anyEq
  have h1 : (D.str x).pyM m = some (.str x) := rfl
  rw [h1, strs_py]
  have h2 : SeqAt.shaped (.str x) = true := by simp [SeqAt.shaped, PyData.canLay0, PyData.depth, hx]
  have h3 : SeqAt.shaped (.list (l.map PyData.str)) = true := by simp [SeqAt.shaped, PyData.canLay0, PyData.depth, hall, hdep]
  simp only [h2, h3, Bool.and_self, if_true, Option.some.injEq]
  rw [Bool.eq_iff_iff]
  simp only [List.any_eq_true, decide_eq_true_eq, List.mem_map]
  constructor
  · rintro ⟨_, ⟨j, hj, rfl⟩, h⟩
    have : j = x := by simpa [PyData.eqv] using h
    exact this ▸ hj
  · exact fun h => ⟨_, ⟨x, h, rfl⟩, by simp [PyData.eqv]⟩
theorem in_strs {G : Gx} {m : Mem} {x : Str} {l : List Str} (hx : PyData.strOk x = true) (hl : ∀ y ∈ l, PyData.strOk y = true) : inD G (.str x) (.tup (l.map .str)) m = some (decide (x ∈ l)) := any_strs hx hl
theorem in_ints {G : Gx} {i : Int} {l : List Int} {m : Mem} : inD G (.int i) (.tup (l.map .int)) m = some (decide (i ∈ l)) := any_ints
/-! ### ranges -/
/-! ### operators -/
def isNon : D → Bool
  | .non => true
  | _ => false
section
variable {G : Gx} {m : Mem} {Q : D → Mem → Prop}
theorem ok_guard {c : Prop} [Decidable c] {a : D} : Ok (if c then .ok a m else .stuck) Q ↔ c ∧ Q a m := by
  with_unfolding_all
    by_cases h : c
    · rw [if_pos h]; exact ⟨fun q => ⟨h, q⟩, fun q => q.2⟩
    · rw [if_neg h]; exact ⟨fun q => q.elim, fun q => (h q.1).elim⟩
@[simp] theorem b_add {i j : Int} : Ok (binD .Add (.int i) (.int j) m) Q ↔ Q (.int (i + j)) m := by with_unfolding_all exact Iff.rfl
@[simp] theorem b_sub {i j : Int} : Ok (binD .Sub (.int i) (.int j) m) Q ↔ Q (.int (i - j)) m := by with_unfolding_all exact Iff.rfl
@[simp] theorem b_mul {i j : Int} : Ok (binD .Mult (.int i) (.int j) m) Q ↔ mulOk i j = true ∧ Q (.int (i * j)) m := ok_guard
@[simp] theorem b_fdiv {i j : Int} : Ok (binD .FloorDiv (.int i) (.int j) m) Q ↔ (0 < j ∧ j < 1073741824) ∧ Q (.int (i / j)) m := ok_guard
@[simp] theorem b_mod {i j : Int} : Ok (binD .Mod (.int i) (.int j) m) Q ↔ 0 < j ∧ Q (.int (i % j)) m := ok_guard
theorem b_pow {i j : Int} : Ok (binD .Pow (.int i) (.int j) m) Q ↔ (0 ≤ j ∧ j ≤ 1000000 ∧ i.natAbs < 2 ^ 64) ∧ Q (.int (i ^ j.toNat)) m := ok_guard
@[simp] theorem b_cat {a b : Str} : Ok (binD .Add (.str a) (.str b) m) Q ↔ a.length + b.length ≤ line ∧ Q (.str (a ++ b)) m := ok_guard
@[simp] theorem b_tup {a b : List D} : Ok (binD .Add (.tup a) (.tup b) m) Q ↔ a.length + b.length ≤ line ∧ Q (.tup (a ++ b)) m := ok_guard
theorem b_lst {x y : D} {xs ys : List D} (h1 : getL m x = some xs) (h2 : getL m y = some ys) : Ok (binD .Add x y m) Q ↔ xs.length + ys.length ≤ line ∧ Q (.lst (xs ++ ys)) m := by
  have e : binD .Add x y m = if xs.length + ys.length ≤ line then .ok (.lst (xs ++ ys)) m else .stuck := by
    unfold binD
    split <;> first | (cases h1; done) | (cases h2; done) | skip
    all_goals first | rfl | contradiction | skip
    rw [h1, h2]
  rw [e]
  exact ok_guard
@[simp] theorem c_eq {x y : D} : Ok (cmpD G .Eq x y m) Q ↔ ∃ b, eqM m x y = some b ∧ Q (.bl b) m := by
  show Ok (retO ((eqM m x y).map .bl) m) Q ↔ _
  rw [ok_retO]
  cases eqM m x y <;> simp
@[simp] theorem c_ne {x y : D} : Ok (cmpD G .NotEq x y m) Q ↔ ∃ b, eqM m x y = some b ∧ Q (.bl (!b)) m := by
  show Ok (retO ((eqM m x y).map fun b => .bl (!b)) m) Q ↔ _
  rw [ok_retO]
  cases eqM m x y <;> simp
@[simp] theorem c_in {x y : D} : Ok (cmpD G .In x y m) Q ↔ ∃ b, inD G x y m = some b ∧ Q (.bl b) m := by
  show Ok (retO ((inD G x y m).map .bl) m) Q ↔ _
  rw [ok_retO]
  cases inD G x y m <;> simp
@[simp] theorem c_nin {x y : D} : Ok (cmpD G .NotIn x y m) Q ↔ ∃ b, inD G x y m = some b ∧ Q (.bl (!b)) m := by
  show Ok (retO ((inD G x y m).map fun b => .bl (!b)) m) Q ↔ _
  rw [ok_retO]
  cases inD G x y m <;> simp
@[simp] theorem c_lt {i j : Int} : Ok (cmpD G .Lt (.int i) (.int j) m) Q ↔ Q (.bl (decide (i < j))) m := by with_unfolding_all exact Iff.rfl
@[simp] theorem c_le {i j : Int} : Ok (cmpD G .LtE (.int i) (.int j) m) Q ↔ Q (.bl (decide (i ≤ j))) m := by with_unfolding_all exact Iff.rfl
@[simp] theorem c_gt {i j : Int} : Ok (cmpD G .Gt (.int i) (.int j) m) Q ↔ Q (.bl (decide (j < i))) m := by with_unfolding_all exact Iff.rfl
@[simp] theorem c_ge {i j : Int} : Ok (cmpD G .GtE (.int i) (.int j) m) Q ↔ Q (.bl (decide (j ≤ i))) m := by with_unfolding_all exact Iff.rfl
@[simp] theorem c_is {x : D} : Ok (cmpD G .Is x .non m) Q ↔ Q (.bl (isNon x)) m := by
  cases x <;> simp [cmpD, ok_ok, isNon]
@[simp] theorem c_isn {x : D} : Ok (cmpD G .IsNot x .non m) Q ↔ Q (.bl (!isNon x)) m := by
  cases x <;> simp [cmpD, ok_ok, isNon]
@[simp] theorem i_tup {xs : List D} {i : Int} : Ok (idxD G (.tup xs) (.int i) m) Q ↔ ∃ d, atI xs i = some d ∧ Q d m := by
  show Ok (retO (atI xs i) m) Q ↔ _
  rw [ok_retO]
theorem i_lst {x : D} {xs : List D} {i : Int} (h : getL m x = some xs) : Ok (idxD G x (.int i) m) Q ↔ ∃ d, atI xs i = some d ∧ Q d m := by
  have e : idxD G x (.int i) m = retO (atI xs i) m := by
    rcases getL_of h with rfl | ⟨p, rfl, e⟩
    · rfl
    · simp only [idxD, h]
  rw [e, ok_retO]
@[simp] theorem i_lst' {xs : List D} {i : Int} : Ok (idxD G (.lst xs) (.int i) m) Q ↔ ∃ d, atI xs i = some d ∧ Q d m := i_lst rfl
theorem i_dct {x y : D} {k : Key} {kvs : List (Key × D)} (h : getK m x = some kvs) (hk : kD y = some k) : Ok (idxD G x y m) Q ↔ ∃ d, lookK kvs k = some d ∧ Q d m := by
  have e : idxD G x y m = retO (lookK kvs k) m := by
    cases x with
    | dic l =>
      cases h
      cases y with
      | int i => cases hk; rfl
      | str z => cases hk; rfl
      | _ => cases hk
    | ptr p =>
      have hl : getL m (.ptr p) = none := by
        simp only [getK] at h
        simp only [getL]
        split at h
        · rename_i e; rw [e]
        · cases h
      cases y with
      | int i => cases hk; simp only [idxD, hl, h, kD]
      | str z => cases hk; simp only [idxD, hl, h, kD]
      | _ => cases hk
    | _ => cases h
  rw [e, ok_retO]
end
section
variable {α : Type} {a b c d e : α} {l : List α}
theorem atI_nat (l : List α) (n : Nat) : atI l (n : Int) = l[n]? := by
  have h0 : (0 : Int) ≤ (n : Int) := by omega
  by_cases h : n < l.length
  · have h1 : (n : Int) < (l.length : Int) := by omega
    simp [atI, ixN, h0, h1]
  · have h1 : ¬ (n : Int) < (l.length : Int) := by omega
    unfold atI ixN
    rw [if_pos h0, if_neg h1, List.getElem?_eq_none (by omega)]
    rfl
@[simp] theorem at0 : atI (a :: l) 0 = some a := atI_nat (a :: l) 0
@[simp] theorem at1 : atI (a :: b :: l) 1 = some b := atI_nat (a :: b :: l) 1
@[simp] theorem at2 : atI (a :: b :: c :: l) 2 = some c := atI_nat (a :: b :: c :: l) 2
@[simp] theorem at3 : atI (a :: b :: c :: d :: l) 3 = some d := atI_nat (a :: b :: c :: d :: l) 3
@[simp] theorem at4 : atI (a :: b :: c :: d :: e :: l) 4 = some e := atI_nat (a :: b :: c :: d :: e :: l) 4
theorem atI_get {l : List α} {i : Int} (h0 : 0 ≤ i) (h1 : i < l.length) : ∃ d, atI l i = some d ∧ l[i.toNat]? = some d := by
  have h2 : i.toNat < l.length := by omega
  refine ⟨l[i.toNat], ?_, List.getElem?_eq_getElem h2⟩
  simp [atI, ixN, h0, h1, h2]
theorem atI_mem {l : List α} {i : Int} (h0 : 0 ≤ i) (h1 : i < l.length) : ∃ d, atI l i = some d ∧ d ∈ l := by
  obtain ⟨d, e, g⟩ := atI_get h0 h1
  exact ⟨d, e, List.mem_of_getElem? g⟩
theorem atI_map {β : Type} {l : List α} {f : α → β} {i : Int} (h0 : 0 ≤ i) (h1 : i < l.length) : ∃ d, atI (l.map f) i = some (f d) ∧ d ∈ l := by
  obtain ⟨d, e, g⟩ := atI_get (l := l.map f) h0 (by simpa using h1)
  rw [List.getElem?_map] at g
  obtain ⟨j, g1, g2⟩ := Option.map_eq_some_iff.mp g
  exact ⟨j, by rw [e, ← g2], List.mem_of_getElem? g1⟩
theorem ixN_in {n : Nat} {i : Int} (h0 : 0 ≤ i) (h1 : i < n) : ixN n i = some i.toNat := by
  unfold ixN
  rw [if_pos h0, if_pos h1]
theorem atI_last (h : l ≠ []) : atI l (-1) = some (l.getLast h) := by
  have hl : 0 < l.length := List.length_pos_iff.mpr h
  have e1 : ¬ (0 : Int) ≤ -1 := by omega
  have e2 : -(l.length : Int) ≤ -1 := by omega
  have e3 : (-1 + (l.length : Int)).toNat = l.length - 1 := by omega
  unfold atI ixN
  rw [if_neg e1, if_pos e2, e3]
  show l[l.length - 1]? = _
  rw [List.getLast_eq_getElem, List.getElem?_eq_getElem]
end
/-! ### built-ins -/
def num (i : Int) : Str := toString i
section
variable {m : Mem} {Q : D → Mem → Prop}
@[simp] theorem l_len {x : D} : Ok (bltD .len [x] m) Q ↔ ∃ n, lenD x m = some n ∧ Q (.int n) m := by
  simp only [bltD, ok_retO]
  cases lenD x m <;> simp
@[simp] theorem len_tup {xs : List D} : lenD (.tup xs) m = some xs.length := rfl
@[simp] theorem len_lst {xs : List D} : lenD (.lst xs) m = some xs.length := rfl
@[simp] theorem len_inp {xs : List Int} : lenD (.inp xs) m = some xs.length := rfl
@[simp] theorem l_tupT {xs : List D} : Ok (bltD .tup [.tup xs] m) Q ↔ Q (.tup xs) m := by with_unfolding_all exact Iff.rfl
@[simp] theorem l_tupL {xs : List D} : Ok (bltD .tup [.lst xs] m) Q ↔ Q (.tup xs) m := by with_unfolding_all exact Iff.rfl
theorem l_tupP {x : D} {xs : List D} (h : getL m x = some xs) : Ok (bltD .tup [x] m) Q ↔ Q (.tup xs) m := by
  rcases getL_of h with rfl | ⟨p, rfl, e⟩
  · with_unfolding_all exact Iff.rfl
  · simp only [bltD, h, Option.map_some, ok_retO]
    simp
@[simp] theorem l_str {i : Int} : Ok (bltD .str [.int i] m) Q ↔ i.natAbs < 2 ^ 64 ∧ Q (.str (num i)) m := ok_guard
@[simp] theorem l_intB {b : Bool} : Ok (bltD .int [.bl b] m) Q ↔ Q (.int (if b then 1 else 0)) m := by with_unfolding_all exact Iff.rfl
@[simp] theorem l_intI {i : Int} : Ok (bltD .int [.int i] m) Q ↔ Q (.int i) m := by with_unfolding_all exact Iff.rfl
@[simp] theorem l_max {i j : Int} : Ok (bltD .max [.int i, .int j] m) Q ↔ Q (.int (if j > i then j else i)) m := by with_unfolding_all exact Iff.rfl
@[simp] theorem l_min {i j : Int} : Ok (bltD .min [.int i, .int j] m) Q ↔ Q (.int (if j < i then j else i)) m := by with_unfolding_all exact Iff.rfl
@[simp] theorem n_fro {xs : List D} {R : D → Mem → Prop} : Ok (newL false xs m) R ↔ R (.lst xs) m := by with_unfolding_all exact Iff.rfl
@[simp] theorem n_mut {xs : List D} {R : D → Mem → Prop} : Ok (newL true xs m) R ↔ R (.ptr m.length) (m ++ [.lst xs]) := by with_unfolding_all exact Iff.rfl
@[simp] theorem n_froK {xs : List (Key × D)} {R : D → Mem → Prop} : Ok (newK false xs m) R ↔ R (.dic xs) m := by with_unfolding_all exact Iff.rfl
@[simp] theorem n_mutK {xs : List (Key × D)} {R : D → Mem → Prop} : Ok (newK true xs m) R ↔ R (.ptr m.length) (m ++ [.dct xs]) := by with_unfolding_all exact Iff.rfl
@[simp] theorem lof_tup {xs : List D} : lofD (.tup xs) m = some xs := rfl
@[simp] theorem lof_lst {xs : List D} : lofD (.lst xs) m = some xs := rfl
@[simp] theorem lof_inp {xs : List Int} : lofD (.inp xs) m = some (xs.map .int) := rfl
@[simp] theorem kd_int {i : Int} : kD (.int i) = some (.inl i) := rfl
@[simp] theorem kd_str {i : Str} : kD (.str i) = some (.inr i) := rfl
@[simp] theorem it_tup {xs : List D} : itSeq (.tup xs) m = some (.fix xs) := rfl
@[simp] theorem it_lst {xs : List D} : itSeq (.lst xs) m = some (.fix xs) := rfl
@[simp] theorem it_inp {xs : List Int} : itSeq (.inp xs) m = some (.fix (xs.map .int)) := rfl
@[simp] theorem it_str {z : Str} : itSeq (.str z) m = some (.fix (signsD z)) := rfl
@[simp] theorem sq_tup {xs : List D} : seqD (.tup xs) = some xs := rfl
@[simp] theorem sq_lst {xs : List D} : seqD (.lst xs) = some xs := rfl
@[simp] theorem sq_str {z : Str} : seqD (.str z) = some (signsD z) := rfl
@[simp] theorem ty_tup {xs : List D} : tyD m (.tup xs) = some .tup := rfl
@[simp] theorem ty_lst {xs : List D} : tyD m (.lst xs) = some .lst := rfl
@[simp] theorem ty_int {i : Int} : tyD m (.int i) = some .int := rfl
@[simp] theorem ty_str' {i : Str} : tyD m (.str i) = some .str := rfl
@[simp] theorem ty_bl {i : Bool} : tyD m (.bl i) = some .bool := rfl
@[simp] theorem ty_non : tyD m .non = some .non := rfl
@[simp] theorem l_isi {x : D} {cs : List Tn} : Ok (isiD x cs m) Q ↔ ∃ t, tyD m x = some t ∧ Q (.bl (cs.any (isaD t))) m := by
  unfold isiD
  cases tyD m x <;> simp [ok_ok, ok_stuck]
@[simp] theorem sl_tup {xs : List D} {lo hi : Option Int} : Ok (sliD (.tup xs) lo hi m) Q ↔ Q (.tup (cutD xs lo hi)) m := by with_unfolding_all exact Iff.rfl
@[simp] theorem sl_lst {xs : List D} {lo hi : Option Int} : Ok (sliD (.lst xs) lo hi m) Q ↔ Q (.lst (cutD xs lo hi)) m := by with_unfolding_all exact Iff.rfl
theorem cut_from (l : List D) (k : Nat) : cutD l (some (k : Int)) none = l.drop k := by
  unfold cutD HT.sIx
  have h : ¬ ((k : Int) < 0) := by omega
  simp only [h, if_false]
  simp only [Int.toNat_natCast]
  by_cases hk : k ≤ l.length
  · rw [Nat.min_eq_left hk, List.take_of_length_le (by simp)]
  · rw [Nat.min_eq_right (by omega)]
    rw [List.drop_eq_nil_of_le (Nat.le_refl _), List.drop_eq_nil_of_le (by omega)]
    simp
theorem cut_to (l : List D) (k : Nat) : cutD l none (some (k : Int)) = l.take k := by
  unfold cutD HT.sIx
  have h : ¬ ((k : Int) < 0) := by omega
  simp only [h, if_false]
  simp only [Int.toNat_natCast, Nat.sub_zero, List.drop_zero]
  by_cases hk : k ≤ l.length
  · rw [Nat.min_eq_left hk]
  · rw [Nat.min_eq_right (by omega), List.take_length, List.take_of_length_le (by omega)]
theorem cut_toI (l : List D) {i : Int} (h : 0 ≤ i) : cutD l none (some i) = l.take i.toNat := by
  have := cut_to l i.toNat
  rwa [Int.toNat_of_nonneg h] at this
theorem cut_fromI (l : List D) {i : Int} (h : 0 ≤ i) : cutD l (some i) none = l.drop i.toNat := by
  have := cut_from l i.toNat
  rwa [Int.toNat_of_nonneg h] at this
@[simp] theorem cut_1 (a : D) (l : List D) : cutD (a :: l) (some 1) none = l := cut_from (a :: l) 1
end
/-! ### methods -/
section
variable {m : Mem} {Q : D → Mem → Prop}
@[simp] theorem k_join {a : Str} : kindOk .join (.str a) m = true := rfl
@[simp] theorem k_split {a : Str} : kindOk .split (.str a) m = true := rfl
@[simp] theorem k_get {kvs : List (Key × D)} : kindOk .get (.dic kvs) m = true := rfl
theorem k_lst {p : Nat} {xs : List D} (h : m[p]? = some (.lst xs)) : isLstP (.ptr p) m = true := by simp only [isLstP, h]
theorem k_app {p : Nat} {xs : List D} (h : m[p]? = some (.lst xs)) : kindOk .app (.ptr p) m = true := k_lst h
theorem k_ext {p : Nat} {xs : List D} (h : m[p]? = some (.lst xs)) : kindOk .ext (.ptr p) m = true := k_lst h
theorem k_pop {p : Nat} {xs : List D} (h : m[p]? = some (.lst xs)) : kindOk .pop (.ptr p) m = true := k_lst h
theorem k_getP {p : Nat} {xs : List (Key × D)} (h : m[p]? = some (.dct xs)) : kindOk .get (.ptr p) m = true := by simp only [kindOk, getK, h]; rfl
@[simp] theorem strs_nil : strsD [] = some [] := rfl
@[simp] theorem strs_cons {a : Str} {r : List D} : strsD (.str a :: r) = (strsD r).map (a :: ·) := rfl
@[simp] theorem strs_map : ∀ ys : List Str, strsD (ys.map .str) = some ys
  | [] => rfl
  | a :: r => by rw [List.map_cons, strs_cons, strs_map r]; rfl
@[simp] theorem strs_map2 {α : Type} {f : α → Str} : ∀ l : List α, strsD (l.map fun i => .str (f i)) = some (l.map f)
  | [] => rfl
  | a :: r => by rw [List.map_cons, strs_cons, strs_map2 r]; rfl
@[simp] theorem strs_map3 {α : Type} {f : α → Str} (l : List α) : strsD (l.map (D.str ∘ f)) = some (l.map f) := strs_map2 l
@[simp] theorem m_join {a : Str} {xs : List D} : Ok (mthD (.str a) .join [.lst xs] m) Q ↔ ∃ ys, strsD xs = some ys ∧ joinLen a ys ≤ line ∧ Q (.str (Txt.join a ys)) m := by
  simp only [mthD, getL, Option.bind]
  cases strsD xs with
  | none => simp [ok_stuck]
  | some ys => simp only [ok_guard, Option.some.injEq, exists_eq_left']
theorem m_joinP {a : Str} {p : Nat} {xs : List D} (h : m[p]? = some (.lst xs)) : Ok (mthD (.str a) .join [.ptr p] m) Q ↔ ∃ ys, strsD xs = some ys ∧ joinLen a ys ≤ line ∧ Q (.str (Txt.join a ys)) m := by
  simp only [mthD, getL, h, Option.bind]
  cases strsD xs with
  | none => simp [ok_stuck]
  | some ys => simp only [ok_guard, Option.some.injEq, exists_eq_left']
@[simp] theorem m_split {a b : Str} : Ok (mthD (.str a) .split [.str b] m) Q ↔ (b.length = 1 ∧ a.length < line) ∧ Q (.lst ((Txt.split a b).map .str)) m := ok_guard
theorem m_app {p : Nat} {xs : List D} {d : D} (h : m[p]? = some (.lst xs)) : Ok (mthD (.ptr p) .app [d] m) Q ↔ xs.length < line ∧ Q .non (m.set p (.lst (xs ++ [d]))) := by
  simp only [mthD, h, ok_guard]
theorem m_ext {p : Nat} {xs ys : List D} {d : D} (h : m[p]? = some (.lst xs)) (h2 : getL m d = some ys) : Ok (mthD (.ptr p) .ext [d] m) Q ↔ xs.length + ys.length ≤ line ∧ Q .non (m.set p (.lst (xs ++ ys))) := by
  with_unfolding_all
    simp only [mthD, h, h2]
    by_cases hl : xs.length + ys.length ≤ line
    · rw [if_pos hl]; exact ⟨fun q => ⟨hl, q⟩, fun q => q.2⟩
    · rw [if_neg hl]; exact ⟨fun q => q.elim, fun q => (hl q.1).elim⟩
@[simp] theorem m_get {kvs : List (Key × D)} {k : Key} {x d : D} : Ok (mthD (.dic kvs) .get [x, d] m) Q ↔ ∃ k, kD x = some k ∧ Q ((lookK kvs k).getD d) m := by
  simp only [mthD, getK]
  cases kD x <;> simp [ok_ok, ok_stuck]
theorem app_get (m l : Mem) (k : Nat) : (m ++ l)[m.length + k]? = l[k]? := by
  rw [List.getElem?_append_right (by omega)]
  congr 1
  omega
theorem app_get0 (m l : Mem) : (m ++ l)[m.length]? = l[0]? := app_get m l 0
theorem app_set (m l : Mem) (k : Nat) (c : Cell) : (m ++ l).set (m.length + k) c = m ++ l.set k c := by
  rw [List.set_append_right _ _ (by omega)]
  congr 2
  omega
theorem app_set0 (m l : Mem) (c : Cell) : (m ++ l).set m.length c = m ++ l.set 0 c := app_set m l 0 c
theorem settle_keepD {d : D} {m' : Mem} {n : Nat} (h : d.und n = false) : Ok (settle n d m') Q ↔ Q d m' := by
  unfold settle
  rw [h, Bool.false_and]
  split <;> simp [ok_ok]
/-- what is made anew stays, some cell names it -/
theorem settle_keep {d : D} {m' : Mem} {n : Nat} (h : ((m'.take n).all (Cell.und n)) = false) : Ok (settle n d m') Q ↔ Q d m' := by
  unfold settle
  rw [h, Bool.and_false]
  split <;> simp [ok_ok]
/-- what is made anew is forgotten -/
theorem settle_drop {d : D} {x : Mem} {n : Nat} (hn : m.length = n) (hd : d.und n = true) (hm : m.all (Cell.und n) = true) : Ok (settle n d (m ++ x)) Q ↔ Q d m := by
  with_unfolding_all
    with_unfolding_all
      unfold settle
      by_cases hx : x = []
      · subst hx
        rw [List.append_nil, if_pos hn]
        rfl
      · have h1 : ¬ (m ++ x).length = n := by
          have := List.length_pos_iff.mpr hx
          rw [List.length_append]; omega
        have h2 : (m ++ x).take n = m := by rw [← hn, List.take_left]
        rw [if_neg h1, h2, hd, hm]
        rfl
end
@[simp] theorem line_eq' : line = 1000000 := rfl
end Mi

set_option Elab.async false
set_option linter.all false
set_option maxRecDepth 100000
set_option maxHeartbeats 4000000
/-! MiQ: more rules for plain reasoning -/
namespace Mi
open PySem L2
theorem lay_strs : ∀ l : List Str, (∀ y ∈ l, PyData.strOk y = true) → PyData.canLayAll0 (l.map PyData.str) = true
  | [], _ => rfl
  | y :: l, h => by simp [PyData.canLayAll0, PyData.canLay0, h y List.mem_cons_self, lay_strs l fun z hz => h z (List.mem_cons_of_mem _ hz)]
theorem dep_strs : ∀ l : List Str, PyData.depthAll (l.map PyData.str) = 0
  | [] => rfl
  | i :: l => by simp [PyData.depthAll, PyData.depth, dep_strs l]
theorem shaped_strs {l : List Str} (h : ∀ y ∈ l, PyData.strOk y = true) : SeqAt.shaped (.list (l.map PyData.str)) = true := by
  simp [SeqAt.shaped, PyData.canLay0, PyData.depth, lay_strs l h, dep_strs]
theorem eqv_strs : ∀ l k : List Str, PyData.eqvAll (l.map PyData.str) (k.map PyData.str) = decide (l = k)
  | [], [] => rfl
  | [], _ :: _ => rfl
  | _ :: _, [] => rfl
  | i :: l, j :: k => by
    rw [Bool.eq_iff_iff]
    simp [PyData.eqvAll, PyData.eqv, eqv_strs l k]
theorem eq_strs {m : Mem} {x y : D} {l k : List Str} (h1 : getL m x = some (l.map .str)) (h2 : getL m y = some (k.map .str)) (hl : ∀ y ∈ l, PyData.strOk y = true) (hk : ∀ y ∈ k, PyData.strOk y = true) : eqM m x y = some (decide (l = k)) := by
  rw [eqM_lists h1 h2]
  by_cases hn : l.length = k.length
  · rw [if_neg (by simpa using hn)]
    unfold eqP
    rw [pyM_of h1, pyM_of h2, strs_py, strs_py]
    simp [shaped_strs hl, shaped_strs hk, PyData.eqv, eqv_strs]
  · rw [if_pos (by simpa using hn)]
    have : l ≠ k := fun e => hn (by rw [e])
    simp [this]
@[simp] theorem in_intsL {G : Gx} {i : Int} {l : List Int} {m : Mem} : inD G (.int i) (.lst (l.map .int)) m = some (decide (i ∈ l)) := any_ints
/-- a comprehension whose turns change the memory: some items are made -/
theorem lc_some {body : D → Mem → Res (Option D)} (P : D → Prop) (I : Mem → Prop) {Q : List D → Mem → Prop} {ds : List D} {m : Mem} (h0 : I m) (hs : ∀ d ∈ ds, ∀ m, I m → Ok (body d m) fun o m' => I m' ∧ ∀ x, o = some x → P x) (hl : ds.length < line)
    (hd : ∀ xs m, I m → xs.length ≤ ds.length → (∀ x ∈ xs, P x) → Q xs m) : Ok (lcIt body (.fix ds) m) Q := by
  show Ok (lcFix body ds [] m) Q
  refine lc_go (fun r acc m => I m ∧ (∀ x ∈ acc, P x) ∧ acc.length + r.length ≤ ds.length ∧ ∀ d ∈ r, d ∈ ds) (fun d r acc m ⟨h1, h2, h3, h4⟩ => ?_) (fun acc m ⟨h1, h2, h3, _⟩ => hd acc m h1 (by simpa using h3) h2) ⟨h0, fun _ h => (by cases h), by simp, fun _ h => h⟩
  refine Ok.mono (hs d (h4 d List.mem_cons_self) m h1) fun o m' ⟨q1, q2⟩ => ?_
  rw [List.length_cons] at h3
  cases o with
  | none => exact ⟨q1, h2, by omega, fun d hd => h4 d (List.mem_cons_of_mem _ hd)⟩
  | some x =>
    refine ⟨by omega, q1, fun y hy => ?_, by rw [List.length_append, List.length_singleton]; omega, fun d hd => h4 d (List.mem_cons_of_mem _ hd)⟩
    rcases List.mem_append.mp hy with e | e
    · exact h2 y e
    · rw [List.mem_singleton.mp e]; exact q2 x rfl
theorem ints_of {P : Int → Prop} : ∀ {xs : List D}, (∀ x ∈ xs, ∃ i : Int, x = .int i ∧ P i) → ∃ l : List Int, xs = l.map .int ∧ ∀ i ∈ l, P i
  | [], _ => ⟨[], rfl, fun _ h => (by cases h)⟩
  | x :: xs, h => by
    obtain ⟨l, rfl, hl⟩ := ints_of fun y hy => h y (List.mem_cons_of_mem _ hy)
    obtain ⟨i, rfl, hi⟩ := h x List.mem_cons_self
    refine ⟨i :: l, rfl, fun j hj => ?_⟩
    rcases List.mem_cons.mp hj with e | e
    · rw [e]; exact hi
    · exact hl j e
end Mi

set_option Elab.async false
set_option linter.all false
set_option maxRecDepth 100000
set_option maxHeartbeats 4000000
/-! MiT: rules for plain reasoning about the words of version 2 -/
namespace Mi
open PySem L2
section
variable {G : Gx} {e : EnvD} {m : Mem} {Q : D → Mem → Prop}
@[simp] theorem w_x1 {o : X1} {a : CE} : OkE G (.x1 o a) e m Q ↔ OkE G a e m fun x m => Ok (x1D o x m) Q := by simp only [OkE, evalE, ok_bind]
@[simp] theorem w_x2 {o : X2} {a b : CE} : OkE G (.x2 o a b) e m Q ↔ OkE G a e m fun x m => OkE G b e m fun y m => Ok (x2D o x y m) Q := by simp only [OkE, evalE, ok_bind]
@[simp] theorem w_newN : OkE G .newN e m Q ↔ Q (.ptr m.length) (m ++ [.nst []]) := by simp only [OkE, evalE, ok_ok]
theorem s_setN {o i a : CE} {D : Po} (h : OkE G a e m fun d m => OkE G o e m fun x m => OkE G i e m fun y m => ∃ m', setItemN x y d m = some m' ∧ D.nx e m') : OS G (.setN o i a) e m D := by with_unfolding_all exact (
  oo_out (Ok.mono h fun d m q => oo_out (Ok.mono q fun x m q => oo_out (Ok.mono q fun y m ⟨m', h1, h2⟩ => by rw [h1]; exact h2))))
@[simp] theorem x_mulM {xs : List D} {k : Int} : Ok (x2D .mulM (.lst xs) (.int k) m) Q ↔ (0 ≤ k ∧ k ≤ 1000 ∧ xs.length ≤ 1000) ∧ Q (.ptr m.length) (m ++ [.lst (List.replicate k.toNat xs).flatten]) := ok_guard
@[simp] theorem x_soN' {x : D} : Ok (x1D .soN x m) Q ↔ Ok (soND x m) Q := Iff.rfl
@[simp] theorem x_srp' {x : D} : Ok (x1D .srp x m) Q ↔ Ok (srpD x m) Q := Iff.rfl
@[simp] theorem x_sor {x : D} : Ok (x1D .sor x m) Q ↔ Ok (sorD x m) Q := Iff.rfl
theorem x_sorL {x : D} {xs : List D} (h : getL m x = some xs) (hs : sortOk xs = true) : Ok (x1D .sor x m) Q ↔ Q (.lst (srtD xs)) m := by
  show Ok (sorD x m) Q ↔ _
  simp only [sorD, h, hs, if_true, ok_ok]
@[simp] theorem x_rngL {j : Int} : Ok (x1D .rngL (.int j) m) Q ↔ (-(2 ^ 62) ≤ (0 : Int) ∧ (0 : Int) < 2 ^ 62 ∧ -(2 ^ 62) ≤ j ∧ j < 2 ^ 62 ∧ (j - 0).toNat ≤ line) ∧ Q (.ptr m.length) (m ++ [.lst ((List.range (j - 0).toNat).map fun k => .int (0 + (k : Nat)))]) := ok_guard
@[simp] theorem x_rngL2 {i j : Int} : Ok (x2D .rngL2 (.int i) (.int j) m) Q ↔ (-(2 ^ 62) ≤ i ∧ i < 2 ^ 62 ∧ -(2 ^ 62) ≤ j ∧ j < 2 ^ 62 ∧ (j - i).toNat ≤ line) ∧ Q (.ptr m.length) (m ++ [.lst ((List.range (j - i).toNat).map fun k => .int (i + (k : Nat)))]) := ok_guard
theorem k_clr {p : Nat} {xs : List D} (h : m[p]? = some (.lst xs)) : kindOk .clr (.ptr p) m = true := k_lst h
theorem k_rvs {p : Nat} {xs : List D} (h : m[p]? = some (.lst xs)) : kindOk .rvs (.ptr p) m = true := k_lst h
theorem m_clr {p : Nat} {xs : List D} (h : m[p]? = some (.lst xs)) : Ok (mthD (.ptr p) .clr [] m) Q ↔ Q .non (m.set p (.lst [])) := by
  simp only [mthD, h, ok_ok]
theorem m_rvs {p : Nat} {xs : List D} (h : m[p]? = some (.lst xs)) : Ok (mthD (.ptr p) .rvs [] m) Q ↔ Q .non (m.set p (.lst xs.reverse)) := by
  simp only [mthD, h, ok_ok]
theorem m_upd {p : Nat} {kvs more : List (Key × D)} (h : m[p]? = some (.dct kvs)) : Ok (mthD (.ptr p) .upd [.dic more] m) Q ↔ kvs.length + more.length < line ∧ Q .non (m.set p (.dct (more.foldl (fun a q => putD a q.1 q.2) kvs))) := by
  simp only [mthD, h]
  exact ok_guard
theorem k_upd {p : Nat} {kvs : List (Key × D)} (h : m[p]? = some (.dct kvs)) : kindOk .upd (.ptr p) m = true := by simp only [kindOk, h]
end
end Mi

set_option Elab.async false
set_option linter.all false
set_option maxRecDepth 100000
set_option maxHeartbeats 4000000
/-! MiX: what may be raised. -/
namespace Mi
open PySem L2
/-- it ends well, or raises -/
@[irreducible] def OkX {α : Type} (r : Res α) (Q : α → Mem → Prop) (E : Exn → Mem → Prop) : Prop := match r with
  | .ok a m => Q a m
  | .exc x m => E x m
  | .stuck => False
section
variable {α β : Type} {r : Res α} {Q : α → Mem → Prop} {E : Exn → Mem → Prop}
@[simp] theorem okx_ok {a : α} {m : Mem} : OkX (.ok a m) Q E ↔ Q a m := by with_unfolding_all exact Iff.rfl
@[simp] theorem okx_exc {x : Exn} {m : Mem} : OkX (.exc x m : Res α) Q E ↔ E x m := by with_unfolding_all exact Iff.rfl
@[simp] theorem okx_stuck : OkX (.stuck : Res α) Q E ↔ False := by with_unfolding_all exact Iff.rfl
theorem Ok.x (h : Ok r Q) : OkX r Q E := by
  with_unfolding_all
    cases r <;> first | exact h | exact h.elim
theorem okx_bind {k : α → Mem → Res β} {Q : β → Mem → Prop} : OkX (r.bind k) Q E ↔ OkX r (fun a m => OkX (k a m) Q E) E := by cases r <;> with_unfolding_all exact Iff.rfl
theorem OkX.mono {Q' : α → Mem → Prop} {E' : Exn → Mem → Prop} (h : OkX r Q E) (i : ∀ a m, Q a m → Q' a m) (j : ∀ x m, E x m → E' x m) : OkX r Q' E' := by
  with_unfolding_all
    cases r <;> first | exact i _ _ h | exact j _ _ h | exact h
theorem OkX.ok (h : OkX r Q fun _ _ => False) : Ok r Q := by
  with_unfolding_all
    cases r <;> first | exact h | exact h.elim
theorem OkX.of (h : OkX r Q E) : (∃ a m, r = .ok a m ∧ Q a m) ∨ ∃ x m, r = .exc x m ∧ E x m := by
  with_unfolding_all
    cases r with
    | ok a m => exact .inl ⟨a, m, rfl, h⟩
    | exc x m => exact .inr ⟨x, m, rfl, h⟩
    | stuck => exact h.elim
theorem ox_out {e : EnvD} {k : α → Mem → Out} {D : Po} (h : OkX r (fun a m => Oo (k a m) D) D.ex) : Oo (r.out e k) D := by
  with_unfolding_all
    cases r with
    | ok a m => exact h
    | exc x m => exact h
    | stuck => exact h.elim
end
section
variable {G : Gx} {e : EnvD} {m : Mem} {D : Po} {Q : Mi.D → Mem → Prop} {E : Exn → Mem → Prop}
@[irreducible] def OX (G : Gx) (c : CE) (e : EnvD) (m : Mem) (Q : Mi.D → Mem → Prop) (E : Exn → Mem → Prop) : Prop := OkX (evalE G c e m) Q E
theorem x_of {a : CE} (h : OkE G a e m Q) : OX G a e m Q E := by with_unfolding_all exact Ok.x h
theorem x_call {f : Str} {es : CEs} {g : Fn} (hi : G.ini f = none) (hf : G.fn f = some g) (h : OkL G es e m fun vs m => OkX (g vs m) Q E) : OX G (.call f es) e m Q E := by
  unfold OX
  rw [evalE, hi]
  simp only [hf]
  rw [okx_bind]
  have h' : Ok (evalL G es e m) fun vs m => OkX (g vs m) Q E := by with_unfolding_all exact h
  exact h'.x
theorem x_make {f : Str} {es : CEs} {g : Fn} (hi : G.ini f = some g) (h : OkL G es e m fun vs m => OkX (g (.ptr m.length :: vs) (m ++ [.ins f []])) (fun d m' => d = .non ∧ Q (.ptr m.length) m') E) : OX G (.call f es) e m Q E := by
  unfold OX
  rw [evalE, hi]
  simp only [makeD]
  rw [okx_bind]
  have h' : Ok (evalL G es e m) fun vs m => OkX (g (.ptr m.length :: vs) (m ++ [.ins f []])) (fun d m' => d = .non ∧ Q (.ptr m.length) m') E := by with_unfolding_all exact h
  refine (Ok.mono h' fun vs m h => ?_).x
  rw [okx_bind]
  refine h.mono (fun d m' ⟨h1, h2⟩ => ?_) fun _ _ h => h
  subst h1
  exact okx_ok.mpr h2
theorem x_own {o : CE} {C n : Str} {es : CEs} {g : Fn} (hm : G.met C n = some g) (h : OkE G o e m fun x m => ∃ p fs, x = .ptr p ∧ m[p]? = some (.ins C fs) ∧ lookS fs n = none ∧ OkL G es e m fun vs m => OkX (g (.ptr p :: vs) m) Q E) : OX G (.own o C n es) e m Q E := by
  unfold OX
  rw [evalE, hm]
  simp only
  rw [okx_bind]
  have h' : Ok (evalE G o e m) fun x m => ∃ p fs, x = .ptr p ∧ m[p]? = some (.ins C fs) ∧ lookS fs n = none ∧ OkL G es e m fun vs m => OkX (g (.ptr p :: vs) m) Q E := by with_unfolding_all exact h
  refine (Ok.mono h' fun x m ⟨p, fs, h1, h2, h3, h4⟩ => ?_).x
  subst h1
  simp only [h2]
  rw [if_pos ⟨trivial, h3⟩, okx_bind]
  have h5 : Ok (evalL G es e m) fun vs m => OkX (g (.ptr p :: vs) m) Q E := by with_unfolding_all exact h4
  exact h5.x
theorem x_att {o : CE} {f : Str} (h : OX G o e m (fun x m => Ok (attD G x f m) Q) E) : OX G (.att o f) e m Q E := by
  unfold OX at h ⊢
  rw [evalE, okx_bind]
  exact h.mono (fun _ _ h => h.x) fun _ _ h => h
theorem x_cmp {o : CmpOp} {a b : CE} (h : OX G a e m (fun x m => OkE G b e m fun y m => Ok (cmpD G o x y m) Q) E) : OX G (.cmp o a b) e m Q E := by
  unfold OX at h ⊢
  rw [evalE, okx_bind]
  refine h.mono (fun x m h => ?_) fun _ _ h => h
  rw [okx_bind]
  have h' : Ok (evalE G b e m) fun y m => Ok (cmpD G o x y m) Q := by with_unfolding_all exact h
  exact (Ok.mono h' fun y m h => h.x).x
/-- `_law_kind(lambda: b)` -/
theorem w_kin {b : CE} (hk : G.kin = true) (h : OX G b e m (fun _ m' => Ok (settle m.length (.str "") m') Q) fun x m' => x.fs = [] ∧ x.cls ∈ kinWords ∧ Ok (settle m.length (.str x.cls) m') Q) : OkE G (.kin b) e m Q := by
  unfold OkE
  unfold OX at h
  rw [evalE, if_pos hk]
  generalize evalE G b e m = r at h
  cases r with
  | stuck => exact (okx_stuck.mp h).elim
  | ok d m' => exact okx_ok.mp h
  | exc x m' =>
    obtain ⟨h1, h2, h3⟩ := okx_exc.mp h
    obtain ⟨cl, fs⟩ := x
    dsimp only at h1 h2 h3
    subst h1
    simp only [kinD]
    rw [if_pos h2]
    exact h3
/-! ### statements -/
theorem s_expX {a : CE} (h : OX G a e m (fun _ m => D.nx e m) D.ex) : OS G (.exp a) e m D := by with_unfolding_all exact (ox_out h)
theorem s_setX {i : Nat} {x : Str} {a : CE} (h : OX G a e m (fun d m => D.nx (e.set i (some d)) m) D.ex) : OS G (.asg (.nam i x) a) e m D := by with_unfolding_all exact (
  ox_out (OkX.mono h (fun d m q => q) fun _ _ h => h))
theorem s_attX {o a : CE} {f : Str} (h : OX G a e m (fun d m => OkE G o e m fun x m => ∃ m', setAttD G x f d m = some m' ∧ D.nx e m') D.ex) : OS G (.att o f a) e m D := by with_unfolding_all exact (
  ox_out (OkX.mono h (fun d m q => oo_out (Ok.mono q fun x m ⟨m', h1, h2⟩ => by rw [h1]; exact h2)) fun _ _ h => h))
theorem s_retX {a : CE} (h : OX G a e m D.rt D.ex) : OS G (.ret a) e m D := by with_unfolding_all exact (ox_out (OkX.mono h (fun u m q => q) fun _ _ h => h))
theorem s_rse {x : Str} {es : CEs} (hx : x ≠ "") (hg : G.exc x = true) (h : D.ex ⟨x, []⟩ m) : OS G (.rse x es) e m D := by
  unfold OS
  rw [execS, if_pos ⟨hx, hg⟩]
  exact h
def PdX (n : Nat) (Q : Mi.D → Mem → Prop) (E : Exn → Mem → Prop) : Po where
  nx := fun _ m => Ok (settle n .non m) Q
  rt := fun d m => Ok (settle n d m) Q
  ex := E
@[simp] theorem pdx_nx {n : Nat} {e : EnvD} {m : Mem} : (PdX n Q E).nx e m ↔ Ok (settle n .non m) Q := Iff.rfl
@[simp] theorem pdx_rt {n : Nat} {d : Mi.D} {m : Mem} : (PdX n Q E).rt d m ↔ Ok (settle n d m) Q := Iff.rfl
@[simp] theorem pdx_ex {n : Nat} {x : Exn} {m : Mem} : (PdX n Q E).ex x m ↔ E x m := Iff.rfl
theorem def_goX {b : CSs} {n s : Nat} {ds : List Mi.D} {m : Mem} (hl : ds.length = n)
    (h : OSs G b (ds.map some ++ List.replicate (s - ds.length) none) m (PdX m.length Q E)) : OkX (runDef G b n s ds m) Q E := by
  unfold runDef
  rw [if_pos hl]
  unfold OSs at h
  generalize execL G b (ds.map some ++ List.replicate (s - ds.length) none) m = o at h
  cases o with
  | stuck => exact h.elim
  | nxt e m' => exact Ok.x h
  | ret d m' => exact Ok.x h
  | brk e m' => exact h.elim
  | cnt e m' => exact h.elim
  | exc x e m' => exact okx_exc.mpr h
end
end Mi

set_option Elab.async false
set_option linter.all false
set_option maxRecDepth 100000
set_option maxHeartbeats 4000000
/-! MiY: `_law_kind`: a def that calls what it got, and tells what was raised. -/
namespace Mi
open PySem L2
def kinCls : List Str := ["BadProgram", "BadNumber", "TooMany", "NotLet", "BadStates", "BadGiven", "BadFuel", "BadNoise", "BadSaves", "BadText"]
def kinAll : List Str := kinCls ++ (["PactError", "ValueError"] : List Str)
def kinV : List Str := ["_law_work", "_law_e", "_law_kinds", "_law_words"]
def kE (x : Str) : CE := .isE 1 "_law_e" x
def kK : CE := .var 2 "_law_kinds"
def ces : List CE → CEs
  | [] => .nil
  | a :: r => .cons a (ces r)
def css : List CS → CSs
  | [] => .nil
  | a :: r => .cons a (css r)
/-- the except suite -/
def kinSuite : CSs := css [
  .asg (.nam 2 "_law_kinds") (.lst false (ces [kE "BadProgram", kE "BadNumber", kE "TooMany", kE "NotLet"])),
  .asg (.nam 2 "_law_kinds") (.bin .Add kK (.lst false (ces [kE "BadStates", kE "BadGiven", kE "BadFuel"]))),
  .asg (.nam 2 "_law_kinds") (.bin .Add kK (.lst false (ces [kE "BadNoise", kE "BadSaves", kE "BadText"]))),
  .ite (.bop .Or (ces [.cmp .NotEq (.mth kK .cnt (ces [.cst (.bl true)])) (.cst (.int 1)), .nott (kE "ValueError")])) (css [.ret (.cst (.str "other"))]) .nil,
  .ite (.idx kK (.cst (.int 0))) (css [.ret (.tup (ces [.cst (.str "BadProgram"), .att (.var 1 "_law_e") "word", .att (.var 1 "_law_e") "number", .att (.var 1 "_law_e") "row"]))]) .nil,
  .ite (.idx kK (.cst (.int 9))) (css [.ret (.tup (ces [.cst (.str "BadText"), .att (.var 1 "_law_e") "line"]))]) .nil,
  .asg (.nam 3 "_law_words") (.lst false (ces [.cst (.str ""), .cst (.str "BadNumber"), .cst (.str "TooMany"), .cst (.str "NotLet"), .cst (.str "BadStates"), .cst (.str "BadGiven"), .cst (.str "BadFuel"), .cst (.str "BadNoise"), .cst (.str "BadSaves")])),
  .ret (.idx (.var 3 "_law_words") (.mth kK .idx (ces [.cst (.bl true)])))]
/-- the body of `_law_kind` -/
def kindB (sg : Scope) : List Stmt → Bool
  | [.Try [.Expr (.Call (.Name a _) [] [] _) _] [.ExceptHandler (some (.Name e _)) (some n) suite _] [] [] _, .Return (some (.Constant (.str z) _ _)) _] =>
    decide (a = "_law_work") && decide (e = "PactError") && decide (n = "_law_e") && decide (z = "") && !suite.isEmpty && chkSs kinV sg true false kinSuite suite && kinAll.all (fun y => glB sg y) && (match sg.names.lookup ("_law_e" : Str) with
      | some .local => true
      | _ => false)
  | _ => false
def kinI (x y : Str) : Option Bool := if y = "ValueError" then some true else if y ∈ kinCls then some (decide (y = x)) else none
def kinG (x : Str) : Gx where
  con := fun _ => none
  fn := fun _ => none
  ini := fun _ => none
  met := fun _ _ => none
  dcs := fun _ => none
  fld := fun _ _ => false
  fuel := 0
  exc := fun _ => false
  exm := fun _ _ => none
  kin := false
  ise := kinI x
theorem kin_run : ∀ x ∈ kinWords, execL (kinG x) kinSuite [none, some .exn, none, none] [] = .ret (.str x) [] := by
  intro x hx
  simp only [kinWords, List.mem_cons, List.not_mem_nil, or_false] at hx
  rcases hx with rfl | rfl | rfl | rfl | rfl | rfl | rfl | rfl <;> rfl
/-- what the head must say -/
structure KindFacts (K : PySem.W.Frag) (mg : Str → Option Value) : Prop where
  exc : ∀ x ∈ kinWords, ExcC K (He.ga K x)
  kit : ∀ x ∈ kinWords, ∀ y ∈ kinCls, PySem.W.kitOne K (.ref (He.ga K x)) (.ref (He.ga K y)) = some (decide (y = x))
  kitV : ∀ x ∈ kinWords, PySem.W.kitOne K (.ref (He.ga K x)) (.type "ValueError") = some true
  exm : ∀ x ∈ kinWords, PySem.W.exmOne K (.ref (He.ga K x)) (.ref (He.ga K "PactError")) = some true
  mgE : mg "PactError" = some (.ref (He.ga K "PactError"))
  mgC : ∀ y ∈ kinCls, mg y = some (.ref (He.ga K y))
  mgV : mg "ValueError" = none
  blt : ∀ x ∈ bltNames, mg x = none
theorem kind_gives [W0' : WW] {P : Program} {w : World} {K : PySem.W.Frag} {mg : Str → Option Value} {base : Heap} {sg : Scope} {g : Addr} {cdg : Value} {bg : List Stmt} (hw : WW.w = w) (kf : KindFacts K mg) (S : FnScope kinV ["_law_work"] sg) (hB : kindB sg bg = true) :
    ∀ (X : Cx) (q : Str), X.prog = P → X.w = w → X.K = K → X.mg = mg → X.base = base → X.A.units + 200 < cLine → LamX.GivesTo X kinV kinN sg g cdg bg "_law_work" q (TTkin K) := by
  intro X q h1 h2 h3 h4 h5 hu f c' s H Q tl act hc h
  subst h1 h2 h3 h4 h5
  unfold kindB at hB
  split at hB
  · rename_i a p1 p2 p3 e p4 n suite p5 p6 z j p7 p8
    simp only [Bool.and_eq_true, decide_eq_true_eq] at hB
    obtain ⟨⟨⟨⟨⟨⟨⟨b1, b2⟩, b3⟩, b4⟩, b5⟩, b6⟩, b7⟩, b8⟩ := hB
    subst b1 b2 b3 b4
    have hgl : ∀ y ∈ kinAll, glB sg y = true := List.all_eq_true.mp b7
    have hl : sg.names.lookup ("_law_e" : Str) = some .local := by
      split at b8
      · assumption
      · cases b8
    obtain ⟨b0, su, rfl⟩ : ∃ b0 su, suite = b0 :: su := by
      cases suite with
      | nil => cases b5
      | cons b0 su => exact ⟨b0, su, rfl⟩
    let X0 : Cx := (cxOf C8.CX0 X.prog X.w X.K X.mg X.base kinV kinN sg g cdg X.A X.stack s H C8.E0).nox
    have gl : ∀ y ∈ kinAll, Gl X0 y := fun y hy => gl_of (X := X0) (hgl y hy)
    let ts : Addr → Value → Option Addr → TS := fun a cls d D σ H => ∃ x ∈ kinWords, cls = .ref (He.ga X.K x) ∧ d = none ∧ (∃ σ' : L2.St, σ = σ'.set 1 (some (V.ref a))) ∧ LamX.Tabs W0'.T H ∧ ∀ H2 : Hp, LamX.ExtN H H2 → LamX.Tabs W0'.T H2 → D.rt (.str x) H2
    refine ⟨_, pss_cons (ps_try_as (X := X0) (i := 1) (n := "_law_e") (x := "PactError") (c := .ref (He.ga X.K "PactError")) (ts := ts) (Wout := fun _ _ _ _ => False)
        (tb := fun W D σ H => ∃ Ech : XK, (∀ cls d σ' H', Ech cls d H' → W cls d σ' H') ∧ σ[0]? = some (some (.ref f)) ∧ H c' = some (LamX.CodeO c' q) ∧ tl Ech H (fun _ H' => D.nx σ H'))
        rfl rfl S.nd rfl hl ⟨gl _ (by simp [kinAll]), by decide, .inl kf.mgE⟩ takes0 (fun W pn xe tk _ => ?_) (fun a oe cls d pn hz hf => ?_)) (pss_one (ps_ret pe_str)), ?_⟩
    · refine ⟨fun pins s' σ H' D I h' => ?_⟩
      obtain ⟨Ech, hW, k1, k2, k3⟩ := h'
      have hp := act W pn xe Ech p1 p2 tk hW
      have hq := pss_one (ps_expr (pos := p3) hp)
      exact hq.run pins s' σ H' D I ⟨k1, k2, k3⟩
    · refine ⟨fun pins s' σ H' D I h' => ?_⟩
      obtain ⟨x, hx, e1, e2, ⟨σ', e3⟩, tb, hQ⟩ := h'
      subst e1 e2
      have hlen : σ.length = 4 := I.len
      have hs1 : σ[1]? = some (some (V.ref a)) := by
        rw [e3, List.length_set] at hlen
        rw [e3, List.getElem?_set_self (by omega)]
      let W1 : WW := ⟨W0'.w, W0'.T, some a⟩
      have gk : @GOk W1 X.prog X.w X.K X.mg X.base 0 (kinG x) := by
        refine ⟨hw, ?_, ?_, ?_, ?_, ?_, ?_, kf.blt, ?_, ?_⟩ <;> intros <;> contradiction
      have c : @CK W1 (X0.suite a ((a, oe) :: pn)) W0 (kinG x) 0 true := by
        refine ⟨gk, ?_, (fun z => nomatch z), takes0, S.nd, (fun _ _ => rfl), (fun _ => ⟨rfl, rfl⟩), (fun _ z => nomatch z), fun _ y b hy => ?_⟩
        · show X.A.units + 3 + 65 < cLine
          omega
        · have hy : kinI x y = some b := hy
          unfold kinI at hy
          have hC := kf.exc x hx
          split at hy
          · rename_i e5
            subst e5
            cases hy
            refine ⟨a, .ty "ValueError", rfl, fun p => pe_bltn (gl _ (by simp [kinAll])) kf.mgV (u := .type "ValueError") (by decide +kernel) rfl (by decide) (by decide), fun pins s σ H xs us Q I r hq => ?_⟩
            exact call_isE (X := X0) hC hz hf pins s σ H xs us Q I r ⟨_, .type "ValueError", true, hq.1, fun u ru => ru, kf.kitV x hx, hq.2⟩
          · split at hy
            · rename_i e5 e6
              cases hy
              refine ⟨a, .ref (He.ga X.K y), rfl, fun p => pe_glob (gl _ (List.mem_append_left (["PactError", "ValueError"] : List Str) e6)) (kf.mgC y e6) rfl (by
                simp only [kinCls, List.mem_cons, List.not_mem_nil, or_false] at e6
                rcases e6 with rfl | rfl | rfl | rfl | rfl | rfl | rfl | rfl | rfl | rfl <;> decide), fun pins s σ H xs us Q I r hq => ?_⟩
              exact call_isE (X := X0) hC hz hf pins s σ H xs us Q I r ⟨_, .ref (He.ga X.K y), decide (y = x), hq.1, fun u ru => ru, kf.kit x hx y e6, hq.2⟩
            · cases hy
      have chk : chkSs kinV sg true false kinSuite (b0 :: su) = true := b6
      have q := (@soundSs W1 (kinG x) kinSuite) (calm := false) c (fun z => nomatch z) PassesOwn.never (b0 :: su) chk
      refine q.run pins s' σ H' D I ⟨[], fun _ => none, [none, some .exn, none, none], [], ?_, ?_, ?_⟩
      · exact ⟨(fun _ _ z => nomatch z), rfl, List.nodup_nil, (fun _ _ _ z => by simp at z), tb, fun _ _ z => nomatch z⟩
      · refine ⟨hlen.symm, fun i d hi => ?_⟩
        rcases i with _ | _ | _ | _ | i <;> simp at hi
        subst hi
        exact ⟨_, hs1, @Rep.exn W1 _ _ _ _ rfl⟩
      · rw [kin_run x hx]
        intro φ' F' H2 v st mr r
        cases r
        exact hQ H2 (fun b o hb ht => st.keep b o hb (by simp) ht) mr.tab
    · refine ⟨fun cls d H' => ∃ x ∈ kinWords, cls = .ref (He.ga X.K x) ∧ d = none ∧ LamX.Tabs WW.T H' ∧ ∀ H2 : Hp, LamX.ExtN H' H2 → LamX.Tabs WW.T H2 → Q (.str x) H2, fun cls d σ' H' ⟨x, hx, e1, e2, tb, hQ⟩ => ?_, rfl, hc, h⟩
      exact ⟨true, by rw [e1]; exact kf.exm x hx, fun _ a _ => ⟨x, hx, e1, e2, ⟨σ', rfl⟩, tb, hQ⟩, fun z => nomatch z⟩
  · cases hB
/-! ### the head's facts, told -/
def excCB (K : PySem.W.Frag) (D : Addr) : Bool :=
  He.eqO (PySem.W.findIn K (.ref D) "__getattribute__") (some (some (.builtin "BaseException.__getattribute__"))) && (He.eqO (PySem.W.findIn K (.ref D) "__getattr__") (some none) && (decide (PySem.W.subIn K (.ref D) (.type "BaseException") = some true) && (PySem.W.hasDictIn K D &&
  (He.eqO (PySem.W.findIn K (.ref D) "__class__") (some (some (.builtin "object.__class__"))) && (He.eqO (PySem.W.specialIn K (.builtin "object.__class__") "__get__") (some (some (.builtin "getset_descriptor.__get__"))) && (decide (PySem.W.takesIn K (.builtin "object.__class__") = some true) && decide (PySem.W.mroIn K D (.type "object") = some true)))))))
theorem excCB_ok {K : PySem.W.Frag} {D : Addr} (h : excCB K D = true) : ExcC K D := by
  unfold excCB at h
  obtain ⟨h1, h⟩ := He.ba h
  obtain ⟨h2, h⟩ := He.ba h
  obtain ⟨h3, h⟩ := He.ba h
  obtain ⟨h4, h⟩ := He.ba h
  obtain ⟨h5, h⟩ := He.ba h
  obtain ⟨h6, h⟩ := He.ba h
  obtain ⟨h7, h8⟩ := He.ba h
  exact ⟨He.eqO_ok h1, He.eqO_ok h2, of_decide_eq_true h3, h4, He.eqO_ok h5, He.eqO_ok h6, of_decide_eq_true h7, of_decide_eq_true h8⟩
def kindFB (K : PySem.W.Frag) : Bool :=
  kinWords.all (fun x => excCB K (He.ga K x) && (kinCls.all (fun y => decide (PySem.W.kitOne K (.ref (He.ga K x)) (.ref (He.ga K y)) = some (decide (y = x)))) && (decide (PySem.W.kitOne K (.ref (He.ga K x)) (.type "ValueError") = some true) && decide (PySem.W.exmOne K (.ref (He.ga K x)) (.ref (He.ga K "PactError")) = some true)))) &&
  (He.eqO (PySem.W.nsIn K mainGlobals "PactError") (some (some (.ref (He.ga K "PactError")))) && (kinCls.all (fun y => He.eqO (PySem.W.nsIn K mainGlobals y) (some (some (.ref (He.ga K y))))) && He.eqO (PySem.W.nsIn K mainGlobals "ValueError") (some none)))
theorem kindFB_ok {K : PySem.W.Frag} {h : Heap} {mg : Str → Option Value} (X : K.In h) (G : h.Ns mainGlobals mg) (b : ∀ x ∈ bltNames, mg x = none) (hk : kindFB K = true) : KindFacts K mg := by
  unfold kindFB at hk
  obtain ⟨h1, hk⟩ := He.ba hk
  obtain ⟨h2, hk⟩ := He.ba hk
  obtain ⟨h3, h4⟩ := He.ba hk
  have a1 := fun x hx => He.ba (List.all_eq_true.mp h1 x hx)
  have a2 := fun x hx => He.ba (a1 x hx).2
  have a3 := fun x hx => He.ba (a2 x hx).2
  exact ⟨fun x hx => excCB_ok (a1 x hx).1, fun x hx y hy => of_decide_eq_true (List.all_eq_true.mp (a2 x hx).1 y hy), fun x hx => of_decide_eq_true (a3 x hx).1, fun x hx => of_decide_eq_true (a3 x hx).2,
    PySem.W.mg_of X G (He.eqO_ok h2), fun y hy => PySem.W.mg_of X G (He.eqO_ok (List.all_eq_true.mp h3 y hy)), PySem.W.mg_none_of X G (He.eqO_ok h4), b⟩
theorem kind_ok [WW] {P : Program} {w : World} {K : PySem.W.Frag} {mg : Str → Option Value} {base : Heap} {params : Arguments} {body : List Stmt} {scope : Scope} {f : Addr} {fd : FuncData} (hw : WW.w = w) (F : FunD K kinN kinN params body scope [] [] f fd) (S : FnScope kinV ["_law_work"] scope)
    (B : Binds K fd ["_law_work"] []) (hm : mg kinN = some (.ref f)) (hk : PySem.W.keepIn K (.ref f) = true) (kf : KindFacts K mg) (hv : visB scope "_law_work" = true) (hB : kindB scope body = true) : KindOk P w K mg base := by
  obtain ⟨oc, od, dV, kV, doc, pm, an, cdv, ct, osl, rfl, lk, hcd, _, _⟩ := F.ex
  exact ⟨⟨"_law_work", f, params, body, scope, dV, kV, doc, pm, cdv, ct, oc, an, od, osl, kinV, hm, hk, lk, hcd, B, S, rfl, vis_of hv, by decide, by decide, kind_gives hw kf S hB⟩⟩
end Mi

set_option Elab.async false
set_option linter.all false
set_option maxRecDepth 100000
set_option maxHeartbeats 4000000
/-! MiZ: the head's Hook with the code objects and tables of the defs that make lambdas. -/
namespace Mi
open PySem PySem.Spec PyProof.Rows L2
abbrev LamL : Type := List ((Str × Option Str) × Str)
def refAd : Value → Addr
  | .ref c => c
  | _ => 0
def isRf : Value → Bool
  | .ref _ => true
  | _ => false
theorem rf_of {v : Value} (h : isRf v = true) : v = .ref (refAd v) := by
  cases v with
  | ref c => rfl
  | _ => cases h
def codeAd (K : PySem.W.Frag) (p : Str × Option Str) : Addr := match K.lookup (He.fAd K p) with
  | some ⟨_, _, .func fd, _⟩ => refAd fd.code
  | _ => 0
def codeRB (K : PySem.W.Frag) (p : Str × Option Str) : Bool := match K.lookup (He.fAd K p) with
  | some ⟨_, _, .func fd, _⟩ => isRf fd.code
  | _ => false
def tabAd (K : PySem.W.Frag) (c : Addr) : Addr := match K.lookup c with
  | some ⟨_, _, .fields vs, _⟩ => (match (vs[11]? : Option Value) with | some (.ref P) => P | _ => 0)
  | _ => 0
def csOf (K : PySem.W.Frag) (lam : LamL) : List (Addr × Addr) := lam.map fun p => (codeAd K p.1, tabAd K (codeAd K p.1))
def tsOf (K : PySem.W.Frag) (lam : LamL) : List (Addr × Str) := lam.map fun p => (tabAd K (codeAd K p.1), (p.2 ++ ".<locals>.") ++ "<lambda>")
def tabG (g : Addr → Option Obj) (P : Addr) : Bool := match g P with
  | some ⟨.none, none, .fields ⟨[]⟩, ⟨[]⟩⟩ => true
  | _ => false
theorem tabG_ok {g : Addr → Option Obj} {P : Addr} (h : tabG g P = true) : g P = some { cls := .none, data := .fields #[] } := by
  unfold tabG at h
  split at h
  · assumption
  · cases h
def extraB (K : PySem.W.Frag) (lam : LamL) : Bool := kindFB K && (lam.all (fun p => codeRB K p.1) && ((csOf K lam).all (fun p => PySem.W.codeHdIn K p.1 p.2 && (K.lookup p.2).isNone && decide (mainGlobals ≠ p.2)) && decide (((csOf K lam).map (·.2)).Nodup)))
def fragX (g : Addr → Option Obj) (n : Nat) (lam : LamL) : PySem.W.Frag := He.frG g ((He.asD g n).filter fun a => !((csOf (He.frG g (He.asD g n)) lam).any fun p => p.2 == a))
def obsX (fa : List He.Fa) (fn : List He.DefD) (tv : List TabV) (lam : LamL) (g : Addr → Option Obj) (K : PySem.W.Frag) : (He.AlT × Bool) × Bool := (obsV fa fn tv K, extraB K lam && (csOf K lam).all fun p => tabG g p.2)
def hookX (n : Nat) (fa : List He.Fa) (fn : List He.DefD) (tv : List TabV) (lam : LamL) : PySem.W.Hook where
  α := (He.AlT × Bool) × Bool
  obs := fun s => obsX fa fn tv lam s.heap.get? (fragX s.heap.get? n lam)
  val := fun w => (valV fn tv w, true)
  says := fun w h => ∃ K : PySem.W.Frag, K.In h ∧ SaysV fa fn tv w K ∧ extraB K lam = true ∧ ∀ p ∈ csOf K lam, h.get? p.2 = some { cls := .none, data := .fields #[] }
  of := fun w s e => by
    have e1 : obsV fa fn tv (fragX s.heap.get? n lam) = valV fn tv w := congrArg (fun z : (He.AlT × Bool) × Bool => z.1) e
    have e2 : (extraB (fragX s.heap.get? n lam) lam && (csOf (fragX s.heap.get? n lam) lam).all fun p => tabG s.heap.get? p.2) = true := congrArg (fun z : (He.AlT × Bool) × Bool => z.2) e
    rw [Bool.and_eq_true] at e2
    exact ⟨_, He.frG_in, e1, e2.1, fun p hp => tabG_ok (List.all_eq_true.mp e2.2 p hp)⟩
  keeps := fun w h h' ⟨K, hK, c, x, t⟩ k => ⟨K, PySem.W.Frag.In.keeps hK k, c, x, fun p hp => k _ _ (t p hp)⟩
def obsXG (n : Nat) (fa : List He.Fa) (fn : List He.DefD) (tv : List TabV) (lam : LamL) (g : Addr → Option Obj) : (He.AlT × Bool) × Bool := obsX fa fn tv lam g (fragX g n lam)
theorem obsXG_eq {n : Nat} {fa : List He.Fa} {fn : List He.DefD} {tv : List TabV} {lam : LamL} {g : Addr → Option Obj} {s : Shared} (h : ∀ a, g a = s.heap.get? a) : obsXG n fa fn tv lam g = (hookX n fa fn tv lam).obs s := by
  have e : g = s.heap.get? := funext h
  rw [e] <;> rfl
/-- what the extra facts are for -/
structure LamZ [WW] (K : PySem.W.Frag) (mg : Str → Option Value) (base : Heap) (lam : LamL) : Prop where
  ex : extraB K lam = true
  hT : WW.T = tsOf K lam
  tb : ∀ p ∈ csOf K lam, LamX.TabB base mg p.1 p.2
theorem extra_parts {K : PySem.W.Frag} {lam : LamL} (h : extraB K lam = true) : kindFB K = true ∧ (∀ p ∈ lam, codeRB K p.1 = true) ∧ (∀ p ∈ csOf K lam, PySem.W.codeHdIn K p.1 p.2 = true ∧ K.lookup p.2 = none ∧ mainGlobals ≠ p.2) ∧ ((csOf K lam).map (·.2)).Nodup := by
  unfold extraB at h
  obtain ⟨h1, h⟩ := He.ba h
  obtain ⟨h2, h⟩ := He.ba h
  obtain ⟨h3, h4⟩ := He.ba h
  refine ⟨h1, fun p hp => List.all_eq_true.mp h2 p hp, fun p hp => ?_, of_decide_eq_true h4⟩
  have q := List.all_eq_true.mp h3 p hp
  simp only [Bool.and_eq_true, decide_eq_true_eq, Option.isNone_iff_eq_none] at q
  exact ⟨q.1.1, q.1.2, q.2⟩
theorem nodup_get {α β : Type} {f : α → β} : ∀ {l : List α}, (l.map f).Nodup → ∀ {a b : α}, a ∈ l → b ∈ l → f a = f b → a = b
  | c :: l, h, a, b, ha, hb, e => by
    rw [List.map_cons, List.nodup_cons] at h
    have key : ∀ {x : α}, x ∈ l → f x ≠ f c := fun hx q => h.1 (q ▸ List.mem_map_of_mem hx)
    by_cases e1 : a = c
    · by_cases e2 : b = c
      · rw [e1, e2]
      · exact absurd (by rw [← e, e1]) (key ((List.mem_cons.mp hb).resolve_left e2))
    · by_cases e2 : b = c
      · exact absurd (by rw [e, e2]) (key ((List.mem_cons.mp ha).resolve_left e1))
      · exact nodup_get h.2 ((List.mem_cons.mp ha).resolve_left e1) ((List.mem_cons.mp hb).resolve_left e2) e
/-- the table of a def that makes lambdas -/
theorem LamZ.tab [WW] {K : PySem.W.Frag} {mg : Str → Option Value} {base : Heap} {lam : LamL} (z : LamZ K mg base lam) {p : Str × Option Str} {qual x : Str} {params : Arguments} {body : List Stmt} {scope : Scope} {dvs : List V} {kws : List (Str × V)} {fd : FuncData} (hp : (p, qual) ∈ lam) (F : FunD K x qual params body scope dvs kws (He.fAd K p) fd) :
    ∃ c Pt, LamX.TabB base mg c Pt ∧ fd.code = .ref c ∧ (Pt, (qual ++ ".<locals>.") ++ "<lambda>") ∈ WW.T ∧ ∀ q ∈ WW.T, q.1 = Pt → q.2 = (qual ++ ".<locals>.") ++ "<lambda>" := by
  obtain ⟨_, h2, h3, h4⟩ := extra_parts z.ex
  refine ⟨codeAd K p, tabAd K (codeAd K p), z.tb _ (List.mem_map_of_mem (f := fun p : (Str × Option Str) × Str => (codeAd K p.1, tabAd K (codeAd K p.1))) hp), ?_, ?_, ?_⟩
  · have q := h2 _ hp
    obtain ⟨oc, od, dV, kV, doc, pm, an, cdv, ct, osl, rfl, lk, hcd, _, _⟩ := F.ex
    unfold codeRB at q
    unfold codeAd
    simp only [lk] at q ⊢
    exact rf_of q
  · rw [z.hT]
    exact List.mem_map_of_mem (f := fun p : (Str × Option Str) × Str => (tabAd K (codeAd K p.1), (p.2 ++ ".<locals>.") ++ "<lambda>")) hp
  · rw [z.hT]
    intro q hq e
    obtain ⟨r, hr, rfl⟩ := List.mem_map.mp hq
    have h5 : (lam.map fun p => tabAd K (codeAd K p.1)).Nodup := by
      have h6 : (csOf K lam).map (·.2) = lam.map fun p => tabAd K (codeAd K p.1) := by
        unfold csOf
        rw [List.map_map]
        rfl
      rw [← h6]
      exact h4
    have := nodup_get (f := fun p : (Str × Option Str) × Str => tabAd K (codeAd K p.1)) h5 hr hp e
    rw [this]
/-- the start: what is there, but the tables -/
theorem law_start [WW] {K : PySem.W.Frag} {H : Hp} {a : Addr} {ns : List Int} {lam : LamL} (hT : WW.T = tsOf K lam) (h : ∀ p ∈ csOf K lam, H p.2 = some (.tbl #[])) (hS : SqL K H a (ns.map V.int)) : ∃ F, MR K [] F H [] ∧ Rep K [] F (.inp ns) (.ref a) := by
  let F : Hp := fun b => match H b with
    | some (.tbl _) => none
    | o => o
  have sub : ∀ b o, F b = some o → H b = some o ∧ ∀ ps, o ≠ .tbl ps := fun b o e => by
    have e : (match H b with
      | some (.tbl _) => none
      | o => o) = some o := e
    split at e
    · cases e
    · rename_i hn
      exact ⟨e, fun ps q => hn ps (by rw [e, q])⟩
  have at_ : ∀ b o, H b = some o → (∀ ps, o ≠ .tbl ps) → F b = some o := fun b o e hn => by
    show (match H b with
      | some (.tbl _) => none
      | o => o) = some o
    split
    · rename_i ps q
      rw [q] at e
      cases e
      exact absurd rfl (hn ps)
    · exact e
  refine ⟨F, ⟨fun b o e => (sub b o e).1, rfl, List.nodup_nil, (fun _ _ _ z => by simp at z), fun q hq => ?_, fun b ps e => (sub b _ e).2 ps rfl⟩, .inp ?_⟩
  · rw [hT] at hq
    obtain ⟨r, hr, rfl⟩ := List.mem_map.mp hq
    exact LamX.TabS.nil (h _ (List.mem_map_of_mem (f := fun p : (Str × Option Str) × Str => (codeAd K p.1, tabAd K (codeAd K p.1))) hr))
  · rcases hS with (h1 | ⟨o, h1⟩) | h1
    · exact .inl (.inl (at_ _ _ h1 fun ps q => nomatch q))
    · exact .inl (.inr ⟨o, at_ _ _ h1 fun ps q => nomatch q⟩)
    · exact .inr h1
end Mi

set_option Elab.async false
set_option linter.all false
set_option maxRecDepth 100000
set_option maxHeartbeats 4000000
namespace Mi
open PySem L2
def t_FORMS : List (Str × He.Dv) := [("put", .str "bn"), ("move", .str "bb"), ("add", .str "bbb"), ("take", .str "bbb"), ("push", .str "b"), ("pop", .str "b"), ("say", .str "b"), ("zero", .str "br"), ("go", .str "r"), ("call", .str "u"), ("back", .str "")]
def tvs : List TabV := [("FORMS", t_FORMS)]
def tb : Tb where
  con := [("BOXES", .int 6), ("RING", .int 1000), ("MOST_HOUSES", .int 3), ("MOST_ROUTINES", .int 6), ("MOST_ROWS", .int 32), ("FORMS", .gd "FORMS")]
  dcs := tvs
  fld := [("Putter", ["begins", "found", "rows", "saves"])]
  exc := ["BadNumber", "BadSaves"]
  exm := []
def b__law_alike : CSs := (.cons (.ite (.isi (.var 1 "_law_due") false [.tup, .lst]) (.cons (.ite (.bop .Or (.cons (.nott (.isi (.var 0 "_law_found") false [.tup, .lst])) (.cons (.cmp .NotEq (.isi (.var 0 "_law_found") true [.lst]) (.isi (.var 1 "_law_due") true [.lst])) .nil))) (.cons (.ret (.cst (.bl false))) .nil) .nil) (.cons (.ite (.cmp .NotEq (.blt .len (.cons (.var 0 "_law_found") .nil)) (.blt .len (.cons (.var 1 "_law_due") .nil))) (.cons (.ret (.cst (.bl false))) .nil) .nil) (.cons (.ret (.cmp .Eq (.lc false (.var 2 "_law_k") (.nam 2 "_law_k") (.rng1 (.blt .len (.cons (.var 1 "_law_due") .nil))) (.cons (.nott (.call "_law_alike" (.cons (.idx (.var 0 "_law_found") (.var 2 "_law_k")) (.cons (.idx (.var 1 "_law_due") (.var 2 "_law_k")) .nil)))) .nil) [("_law_k", 2)]) (.lst false .nil))) .nil))) .nil) (.cons (.ite (.cmp .Is (.var 1 "_law_due") (.cst .non)) (.cons (.ret (.cmp .Is (.var 0 "_law_found") (.cst .non))) .nil) .nil) (.cons (.ite (.isi (.var 1 "_law_due") true [.str]) (.cons (.ret (.bop .And (.cons (.isi (.var 0 "_law_found") true [.str]) (.cons (.cmp .Eq (.var 0 "_law_found") (.var 1 "_law_due")) .nil)))) .nil) .nil) (.cons (.ite (.bop .Or (.cons (.isi (.var 1 "_law_due") true [.bool]) (.cons (.isi (.var 0 "_law_found") true [.bool]) .nil))) (.cons (.ret (.bop .And (.cons (.isi (.var 1 "_law_due") true [.bool]) (.cons (.isi (.var 0 "_law_found") true [.bool]) (.cons (.cmp .Eq (.var 0 "_law_found") (.var 1 "_law_due")) .nil))))) .nil) .nil) (.cons (.ret (.bop .And (.cons (.isi (.var 0 "_law_found") true [.int]) (.cons (.cmp .Eq (.var 0 "_law_found") (.var 1 "_law_due")) .nil)))) .nil)))))
def g__law_alike (r : Fn) : Gx := mkG tb [("_law_alike", r)] [] [] 100000
def r__law_alike (r : Fn) : Fn := runDef (g__law_alike r) b__law_alike 2 3
def n__law_alike : Nat → Fn
  | 0 => fun _ _ => .stuck
  | n + 1 => r__law_alike (n__law_alike n)
abbrev f__law_alike : Fn := n__law_alike 8
@[simp] theorem cl__law_alike__law_alike {r : Fn} {es : CEs} {e : EnvD} {m : Mem} {Q : D → Mem → Prop} : OkE (g__law_alike r) (.call "_law_alike" es) e m Q ↔ OkL (g__law_alike r) es e m fun vs m => Ok (r vs m) Q := w_call rfl rfl
def b__law_next : CSs := (.cons (.asg (.nam 2 "_law_at") (.bin .Mod (.idx (.var 0 "_law_h") (.cst (.int 2))) (.blt .max (.cons (.cst (.int 1)) (.cons (.blt .len (.cons (.idx (.var 0 "_law_h") (.cst (.int 1))) .nil)) .nil))))) (.cons (.asg (.nam 3 "_law_cell") (.ifx (.cmp .NotEq (.idx (.var 0 "_law_h") (.cst (.int 1))) (.lst false .nil)) (.idx (.idx (.var 0 "_law_h") (.cst (.int 1))) (.var 2 "_law_at")) (.cst (.int 0)))) (.cons (.ite (.cmp .GtE (.var 3 "_law_cell") (.bin .Pow (.cst (.int 10)) (.cst (.int 18)))) (.cons (.sub (.idx (.var 0 "_law_h") (.cst (.int 1))) (.var 2 "_law_at") (.bin .FloorDiv (.var 3 "_law_cell") (.var 1 "_law_many"))) (.cons (.ret (.bin .Mod (.var 3 "_law_cell") (.var 1 "_law_many"))) .nil)) .nil) (.cons (.sub (.var 0 "_law_h") (.cst (.int 0)) (.bin .Mod (.bin .Add (.bin .Add (.bin .Mult (.idx (.var 0 "_law_h") (.cst (.int 0))) (.cst (.int 48271))) (.bin .Mult (.var 3 "_law_cell") (.cst (.int 69621)))) (.cst (.int 11))) (.cst (.int 2147483647)))) (.cons (.sub (.var 0 "_law_h") (.cst (.int 2)) (.bin .Add (.idx (.var 0 "_law_h") (.cst (.int 2))) (.cst (.int 1)))) (.cons (.ret (.bin .Mod (.bin .FloorDiv (.idx (.var 0 "_law_h") (.cst (.int 0))) (.cst (.int 7))) (.var 1 "_law_many"))) .nil))))))
def g__law_next : Gx := mkG tb [] [] [] 100000
def f__law_next : Fn := runDef g__law_next b__law_next 2 4
def b__law_number : CSs := (.cons (.ret (.idx (.lst false (.cons (.call "_law_next" (.cons (.var 0 "_law_h") (.cons (.cst (.int 4)) .nil))) (.cons (.call "_law_next" (.cons (.var 0 "_law_h") (.cons (.cst (.int 1000)) .nil))) .nil))) (.call "_law_next" (.cons (.var 0 "_law_h") (.cons (.cst (.int 2)) .nil))))) .nil)
def g__law_number : Gx := mkG tb [("_law_next", f__law_next)] [] [] 100000
def f__law_number : Fn := runDef g__law_number b__law_number 1 1
@[simp] theorem cl__law_number__law_next {es : CEs} {e : EnvD} {m : Mem} {Q : D → Mem → Prop} : OkE g__law_number (.call "_law_next" es) e m Q ↔ OkL g__law_number es e m fun vs m => Ok (f__law_next vs m) Q := w_call rfl rfl
def b__law_wild_row : CSs := (.cons (.asg (.nam 3 "_law_word") (.lst false (.cons (.cst (.str "put")) (.cons (.cst (.str "move")) (.cons (.cst (.str "add")) (.cons (.cst (.str "take")) (.cons (.cst (.str "push")) (.cons (.cst (.str "push")) (.cons (.cst (.str "pop")) (.cons (.cst (.str "pop")) (.cons (.cst (.str "say")) (.cons (.cst (.str "zero")) (.cons (.cst (.str "zero")) (.cons (.cst (.str "go")) (.cons (.cst (.str "call")) (.cons (.cst (.str "back")) .nil)))))))))))))))) (.cons (.asg (.nam 3 "_law_word") (.idx (.var 3 "_law_word") (.call "_law_next" (.cons (.var 0 "_law_h") (.cons (.cst (.int 14)) .nil))))) (.cons (.asg (.nam 4 "_law_some") (.lc false (.call "_law_next" (.cons (.var 0 "_law_h") (.cons (.cst (.int 6)) .nil))) (.nam 5 "_law_k") (.rng1 (.cst (.int 3))) .nil [("_law_k", 5)])) (.cons (.ite (.cmp .In (.var 3 "_law_word") (.tup (.cons (.cst (.str "move")) (.cons (.cst (.str "push")) (.cons (.cst (.str "pop")) (.cons (.cst (.str "say")) (.cons (.cst (.str "add")) (.cons (.cst (.str "take")) .nil)))))))) (.cons (.ret (.bin .Add (.tup (.cons (.var 3 "_law_word") .nil)) (.blt .tup (.cons (.sli (.var 4 "_law_some") .no (.yes (.mth (.dic false (.cons (.cst (.str "move")) (.cst (.int 2)) (.cons (.cst (.str "add")) (.cst (.int 3)) (.cons (.cst (.str "take")) (.cst (.int 3)) .nil)))) .get (.cons (.var 3 "_law_word") (.cons (.cst (.int 1)) .nil))))) .nil)))) .nil) .nil) (.cons (.ite (.cmp .Eq (.var 3 "_law_word") (.cst (.str "put"))) (.cons (.ret (.tup (.cons (.var 3 "_law_word") (.cons (.idx (.var 4 "_law_some") (.cst (.int 0))) (.cons (.call "_law_number" (.cons (.var 0 "_law_h") .nil)) .nil))))) .nil) .nil) (.cons (.ite (.cmp .Eq (.var 3 "_law_word") (.cst (.str "zero"))) (.cons (.ret (.tup (.cons (.var 3 "_law_word") (.cons (.idx (.var 4 "_law_some") (.cst (.int 0))) (.cons (.call "_law_next" (.cons (.var 0 "_law_h") (.cons (.var 1 "_law_rows") .nil))) .nil))))) .nil) .nil) (.cons (.ret (.idx (.dic false (.cons (.cst (.str "go")) (.tup (.cons (.cst (.str "go")) (.cons (.call "_law_next" (.cons (.var 0 "_law_h") (.cons (.var 1 "_law_rows") .nil))) .nil))) (.cons (.cst (.str "call")) (.tup (.cons (.cst (.str "call")) (.cons (.call "_law_next" (.cons (.var 0 "_law_h") (.cons (.var 2 "_law_routines") .nil))) .nil))) (.cons (.cst (.str "back")) (.tup (.cons (.cst (.str "back")) .nil)) .nil)))) (.var 3 "_law_word"))) .nil)))))))
def g__law_wild_row : Gx := mkG tb [("_law_next", f__law_next), ("_law_number", f__law_number)] [] [] 100000
def f__law_wild_row : Fn := runDef g__law_wild_row b__law_wild_row 3 6
@[simp] theorem cl__law_wild_row__law_next {es : CEs} {e : EnvD} {m : Mem} {Q : D → Mem → Prop} : OkE g__law_wild_row (.call "_law_next" es) e m Q ↔ OkL g__law_wild_row es e m fun vs m => Ok (f__law_next vs m) Q := w_call rfl rfl
@[simp] theorem cl__law_wild_row__law_number {es : CEs} {e : EnvD} {m : Mem} {Q : D → Mem → Prop} : OkE g__law_wild_row (.call "_law_number" es) e m Q ↔ OkL g__law_wild_row es e m fun vs m => Ok (f__law_number vs m) Q := w_call rfl rfl
def b__law_odd : CSs := (.cons (.asg (.tup [(3, "_law_houses"), (4, "_law_routines")]) (.var 1 "_law_program_here")) (.cons (.loop (.nam 5 "_law_turn") (.rng1 (.var 2 "_law_turns")) (.cons (.asg (.nam 6 "_law_k") (.call "_law_next" (.cons (.var 0 "_law_h") (.cons (.blt .len (.cons (.var 4 "_law_routines") .nil)) .nil)))) (.cons (.asg (.tup [(7, "_law_house_here"), (8, "_law_rows")]) (.idx (.var 4 "_law_routines") (.var 6 "_law_k"))) (.cons (.asg (.nam 9 "_law_at") (.call "_law_next" (.cons (.var 0 "_law_h") (.cons (.blt .len (.cons (.var 8 "_law_rows") .nil)) .nil)))) (.cons (.asg (.nam 10 "_law_row") (.call "_law_wild_row" (.cons (.var 0 "_law_h") (.cons (.blt .len (.cons (.var 8 "_law_rows") .nil)) (.cons (.blt .len (.cons (.var 4 "_law_routines") .nil)) .nil))))) (.cons (.asg (.nam 11 "_law_sort") (.call "_law_next" (.cons (.var 0 "_law_h") (.cons (.cst (.int 4)) .nil)))) (.cons (.asg (.nam 12 "_law_some") (.lst false (.cons (.bin .Add (.bin .Add (.sli (.var 8 "_law_rows") .no (.yes (.var 9 "_law_at"))) (.tup (.cons (.var 10 "_law_row") .nil))) (.sli (.var 8 "_law_rows") (.yes (.bin .Add (.var 9 "_law_at") (.cst (.int 1)))) .no)) (.cons (.bin .Add (.bin .Add (.sli (.var 8 "_law_rows") .no (.yes (.var 9 "_law_at"))) (.tup (.cons (.var 10 "_law_row") .nil))) (.sli (.var 8 "_law_rows") (.yes (.var 9 "_law_at")) .no)) (.cons (.bin .Add (.sli (.var 8 "_law_rows") .no (.yes (.var 9 "_law_at"))) (.sli (.var 8 "_law_rows") (.yes (.bin .Add (.var 9 "_law_at") (.cst (.int 1)))) .no)) (.cons (.var 8 "_law_rows") .nil)))))) (.cons (.asg (.nam 12 "_law_some") (.idx (.var 12 "_law_some") (.var 11 "_law_sort"))) (.cons (.asg (.nam 13 "_law_many") (.blt .len (.cons (.var 12 "_law_some") .nil))) (.cons (.asg (.nam 12 "_law_some") (.blt .tup (.cons (.lc false (.ifx (.cmp .In (.idx (.var 14 "_law_one") (.cst (.int 0))) (.tup (.cons (.cst (.str "go")) (.cons (.cst (.str "zero")) .nil)))) (.bin .Add (.sli (.var 14 "_law_one") .no (.yes (.neg (.cst (.int 1))))) (.tup (.cons (.blt .min (.cons (.idx (.var 14 "_law_one") (.neg (.cst (.int 1)))) (.cons (.bin .Sub (.var 13 "_law_many") (.cst (.int 1))) .nil))) .nil))) (.var 14 "_law_one")) (.nam 14 "_law_one") (.seq (.var 12 "_law_some")) .nil [("_law_one", 14)]) .nil))) (.cons (.ite (.bop .And (.cons (.cmp .Eq (.var 11 "_law_sort") (.cst (.int 3))) (.cons (.cmp .Gt (.blt .len (.cons (.var 3 "_law_houses") .nil)) (.cst (.int 1))) .nil))) (.cons (.asg (.nam 7 "_law_house_here") (.call "_law_next" (.cons (.var 0 "_law_h") (.cons (.blt .len (.cons (.var 3 "_law_houses") .nil)) .nil)))) .nil) .nil) (.cons (.ite (.bop .And (.cons (.cmp2 .Lt .Lt (.cst (.int 0)) (.var 13 "_law_many") (.cst (.int 33))) (.cons (.cmp .In (.idx (.idx (.var 12 "_law_some") (.neg (.cst (.int 1)))) (.cst (.int 0))) (.tup (.cons (.cst (.str "go")) (.cons (.cst (.str "back")) .nil)))) .nil))) (.cons (.asg (.nam 4 "_law_routines") (.bin .Add (.bin .Add (.sli (.var 4 "_law_routines") .no (.yes (.var 6 "_law_k"))) (.tup (.cons (.tup (.cons (.var 7 "_law_house_here") (.cons (.var 12 "_law_some") .nil))) .nil))) (.sli (.var 4 "_law_routines") (.yes (.bin .Add (.var 6 "_law_k") (.cst (.int 1)))) .no))) .nil) .nil) .nil)))))))))))) (.cons (.ret (.tup (.cons (.var 3 "_law_houses") (.cons (.var 4 "_law_routines") .nil)))) .nil)))
def g__law_odd : Gx := mkG tb [("_law_next", f__law_next), ("_law_wild_row", f__law_wild_row)] [] [] 100000
def f__law_odd : Fn := runDef g__law_odd b__law_odd 3 15
@[simp] theorem cl__law_odd__law_next {es : CEs} {e : EnvD} {m : Mem} {Q : D → Mem → Prop} : OkE g__law_odd (.call "_law_next" es) e m Q ↔ OkL g__law_odd es e m fun vs m => Ok (f__law_next vs m) Q := w_call rfl rfl
@[simp] theorem cl__law_odd__law_wild_row {es : CEs} {e : EnvD} {m : Mem} {Q : D → Mem → Prop} : OkE g__law_odd (.call "_law_wild_row" es) e m Q ↔ OkL g__law_odd es e m fun vs m => Ok (f__law_wild_row vs m) Q := w_call rfl rfl
def b__law_house : CSs := (.cons (.asg (.nam 1 "_law_few") (.idx (.lst false (.cons (.cst (.int 3)) (.cons (.cst (.int 3)) (.cons (.cst (.int 3)) (.cons (.cst (.int 2)) .nil))))) (.call "_law_next" (.cons (.var 0 "_law_h") (.cons (.cst (.int 4)) .nil))))) (.cons (.asg (.nam 2 "_law_sorts") (.lc false (.bin .Mult (.call "_law_next" (.cons (.var 0 "_law_h") (.cons (.var 1 "_law_few") .nil))) (.blt .int (.cons (.bop .Or (.cons (.cmp .Eq (.var 1 "_law_few") (.cst (.int 3))) (.cons (.cmp .Eq (.call "_law_next" (.cons (.var 0 "_law_h") (.cons (.cst (.int 3)) .nil))) (.cst (.int 0))) .nil))) .nil))) (.nam 3 "_law_box") (.rng1 (.cst (.int 6))) .nil [("_law_box", 3)])) (.cons (.asg (.nam 4 "_law_out") (.call "_law_next" (.cons (.var 0 "_law_h") (.cons (.cst (.int 6)) .nil)))) (.cons (.asg (.nam 5 "_law_ins") (.blt .tup (.cons (.sli (.lc false (.var 3 "_law_box") (.nam 3 "_law_box") (.rng1 (.cst (.int 6))) (.cons (.cmp .Eq (.idx (.var 2 "_law_sorts") (.var 3 "_law_box")) (.cst (.int 0))) .nil) [("_law_box", 3)]) .no (.yes (.bin .Add (.cst (.int 1)) (.call "_law_next" (.cons (.var 0 "_law_h") (.cons (.idx (.lst false (.cons (.cst (.int 3)) (.cons (.cst (.int 6)) .nil))) (.call "_law_next" (.cons (.var 0 "_law_h") (.cons (.cst (.int 2)) .nil)))) .nil)))))) .nil))) (.cons (.ret (.tup (.cons (.var 5 "_law_ins") (.cons (.var 4 "_law_out") (.cons (.blt .tup (.cons (.lc false (.var 3 "_law_box") (.nam 3 "_law_box") (.rng1 (.cst (.int 6))) (.cons (.bop .And (.cons (.cmp .Eq (.idx (.var 2 "_law_sorts") (.var 3 "_law_box")) (.cst (.int 1))) (.cons (.cmp .NotEq (.var 3 "_law_box") (.var 4 "_law_out")) .nil))) .nil) [("_law_box", 3)]) .nil)) .nil))))) .nil)))))
def g__law_house : Gx := mkG tb [("_law_next", f__law_next)] [] [] 100000
def f__law_house : Fn := runDef g__law_house b__law_house 1 6
@[simp] theorem cl__law_house__law_next {es : CEs} {e : EnvD} {m : Mem} {Q : D → Mem → Prop} : OkE g__law_house (.call "_law_next" es) e m Q ↔ OkL g__law_house es e m fun vs m => Ok (f__law_next vs m) Q := w_call rfl rfl
def b__law_calling : CSs := (.cons (.asg (.nam 2 "_law_called") (.call "_law_next" (.cons (.var 0 "_law_h") (.cons (.blt .len (.cons (.idx (.var 1 "_law_e") (.cst (.str "owners"))) .nil)) .nil)))) (.cons (.asg (.tup [(3, "_law_ins"), (4, "_law_out"), (5, "_law_kept_here")]) (.idx (.idx (.var 1 "_law_e") (.cst (.str "houses"))) (.idx (.idx (.var 1 "_law_e") (.cst (.str "owners"))) (.var 2 "_law_called")))) (.cons (.asg (.nam 6 "_law_fixed") (.lc false (.var 7 "_law_box") (.nam 7 "_law_box") (.rng1 (.cst (.int 6))) (.cons (.cmp .NotIn (.var 7 "_law_box") (.idx (.var 1 "_law_e") (.cst (.str "free")))) .nil) [("_law_box", 7)])) (.cons (.ite (.cmp .NotEq (.lc false (.var 7 "_law_box") (.nam 7 "_law_box") (.seq (.bin .Add (.var 3 "_law_ins") (.tup (.cons (.var 4 "_law_out") .nil)))) (.cons (.cmp .In (.var 7 "_law_box") (.var 6 "_law_fixed")) .nil) [("_law_box", 7)]) (.lst false .nil)) (.cons .retN .nil) .nil) (.cons (.loop (.nam 7 "_law_box") (.seq (.var 3 "_law_ins")) (.cons (.ite (.cmp .NotEq (.idx (.idx (.var 1 "_law_e") (.cst (.str "boxes"))) (.var 7 "_law_box")) (.cst (.str "good"))) (.cons (.exp (.mth (.idx (.var 1 "_law_e") (.cst (.str "rows"))) .app (.cons (.tup (.cons (.cst (.str "put")) (.cons (.var 7 "_law_box") (.cons (.call "_law_number" (.cons (.var 0 "_law_h") .nil)) .nil)))) .nil))) (.cons (.sub (.idx (.var 1 "_law_e") (.cst (.str "boxes"))) (.var 7 "_law_box") (.cst (.str "good"))) .nil)) .nil) .nil)) (.cons (.asg (.nam 8 "_law_some") (.lc false (.var 7 "_law_box") (.nam 7 "_law_box") (.rng1 (.cst (.int 6))) (.cons (.bop .And (.cons (.cmp .NotIn (.var 7 "_law_box") (.var 5 "_law_kept_here")) (.cons (.cmp .NotEq (.idx (.idx (.var 1 "_law_e") (.cst (.str "boxes"))) (.var 7 "_law_box")) (.cst (.str "loose"))) (.cons (.cmp .NotEq (.var 7 "_law_box") (.var 4 "_law_out")) .nil)))) .nil) [("_law_box", 7)])) (.cons (.asg (.nam 9 "_law_saved") (.lc false (.var 7 "_law_box") (.nam 7 "_law_box") (.seq (.var 8 "_law_some")) (.cons (.bop .Or (.cons (.cmp .In (.var 7 "_law_box") (.var 6 "_law_fixed")) (.cons (.cmp .Eq (.call "_law_next" (.cons (.var 0 "_law_h") (.cons (.cst (.int 3)) .nil))) (.cst (.int 0))) .nil))) .nil) [("_law_box", 7)])) (.cons (.exp (.mth (.idx (.var 1 "_law_e") (.cst (.str "rows"))) .ext (.cons (.lc false (.tup (.cons (.cst (.str "push")) (.cons (.var 7 "_law_box") .nil))) (.nam 7 "_law_box") (.seq (.var 9 "_law_saved")) .nil [("_law_box", 7)]) .nil))) (.cons (.exp (.mth (.idx (.var 1 "_law_e") (.cst (.str "rows"))) .app (.cons (.tup (.cons (.cst (.str "call")) (.cons (.var 2 "_law_called") .nil))) .nil))) (.cons (.exp (.mth (.idx (.var 1 "_law_e") (.cst (.str "rows"))) .ext (.cons (.lc false (.tup (.cons (.cst (.str "pop")) (.cons (.var 7 "_law_box") .nil))) (.nam 7 "_law_box") (.rev (.var 9 "_law_saved")) .nil [("_law_box", 7)]) .nil))) (.cons (.loop (.nam 7 "_law_box") (.seq (.var 8 "_law_some")) (.cons (.sub (.idx (.var 1 "_law_e") (.cst (.str "boxes"))) (.var 7 "_law_box") (.ifx (.cmp .In (.var 7 "_law_box") (.var 9 "_law_saved")) (.idx (.idx (.var 1 "_law_e") (.cst (.str "boxes"))) (.var 7 "_law_box")) (.cst (.str "loose")))) .nil)) (.cons (.sub (.idx (.var 1 "_law_e") (.cst (.str "boxes"))) (.var 4 "_law_out") (.cst (.str "good"))) .nil))))))))))))
def g__law_calling : Gx := mkG tb [("_law_next", f__law_next), ("_law_number", f__law_number)] [] [] 100000
def f__law_calling : Fn := runDef g__law_calling b__law_calling 2 10
@[simp] theorem cl__law_calling__law_next {es : CEs} {e : EnvD} {m : Mem} {Q : D → Mem → Prop} : OkE g__law_calling (.call "_law_next" es) e m Q ↔ OkL g__law_calling es e m fun vs m => Ok (f__law_next vs m) Q := w_call rfl rfl
@[simp] theorem cl__law_calling__law_number {es : CEs} {e : EnvD} {m : Mem} {Q : D → Mem → Prop} : OkE g__law_calling (.call "_law_number" es) e m Q ↔ OkL g__law_calling es e m fun vs m => Ok (f__law_number vs m) Q := w_call rfl rfl
def b__law_simple : CSs := (.cons (.asg (.nam 2 "_law_good") (.lc false (.var 3 "_law_box") (.nam 3 "_law_box") (.rng1 (.cst (.int 6))) (.cons (.cmp .Eq (.idx (.idx (.var 1 "_law_e") (.cst (.str "boxes"))) (.var 3 "_law_box")) (.cst (.str "good"))) .nil) [("_law_box", 3)])) (.cons (.asg (.nam 4 "_law_goal") (.idx (.idx (.var 1 "_law_e") (.cst (.str "free"))) (.call "_law_next" (.cons (.var 0 "_law_h") (.cons (.blt .len (.cons (.idx (.var 1 "_law_e") (.cst (.str "free"))) .nil)) .nil))))) (.cons (.asg (.nam 5 "_law_turn") (.call "_law_next" (.cons (.var 0 "_law_h") (.cons (.cst (.int 6)) .nil)))) (.cons (.ite (.bop .Or (.cons (.cmp .Eq (.var 2 "_law_good") (.lst false .nil)) (.cons (.cmp .Eq (.var 5 "_law_turn") (.cst (.int 0))) .nil))) (.cons (.asg (.nam 6 "_law_row") (.tup (.cons (.cst (.str "put")) (.cons (.var 4 "_law_goal") (.cons (.call "_law_number" (.cons (.var 0 "_law_h") .nil)) .nil))))) .nil) (.cons (.ite (.cmp .Eq (.var 5 "_law_turn") (.cst (.int 1))) (.cons (.asg (.nam 6 "_law_row") (.tup (.cons (.cst (.str "say")) (.cons (.idx (.var 2 "_law_good") (.call "_law_next" (.cons (.var 0 "_law_h") (.cons (.blt .len (.cons (.var 2 "_law_good") .nil)) .nil)))) .nil)))) .nil) (.cons (.ite (.cmp .Eq (.var 5 "_law_turn") (.cst (.int 2))) (.cons (.asg (.nam 7 "_law_some") (.lc false (.var 3 "_law_box") (.nam 3 "_law_box") (.rng1 (.cst (.int 6))) (.cons (.cmp .NotEq (.idx (.idx (.var 1 "_law_e") (.cst (.str "boxes"))) (.var 3 "_law_box")) (.cst (.str "loose"))) .nil) [("_law_box", 3)])) (.cons (.asg (.nam 6 "_law_row") (.tup (.cons (.cst (.str "move")) (.cons (.var 4 "_law_goal") (.cons (.idx (.var 7 "_law_some") (.call "_law_next" (.cons (.var 0 "_law_h") (.cons (.blt .len (.cons (.var 7 "_law_some") .nil)) .nil)))) .nil))))) .nil)) (.cons (.par 8 9 "_law_one" "_law_other" (.idx (.var 2 "_law_good") (.call "_law_next" (.cons (.var 0 "_law_h") (.cons (.blt .len (.cons (.var 2 "_law_good") .nil)) .nil)))) (.idx (.var 2 "_law_good") (.call "_law_next" (.cons (.var 0 "_law_h") (.cons (.blt .len (.cons (.var 2 "_law_good") .nil)) .nil))))) (.cons (.asg (.nam 6 "_law_row") (.tup (.cons (.idx (.lst false (.cons (.cst (.str "add")) (.cons (.cst (.str "take")) .nil))) (.bin .Mod (.var 5 "_law_turn") (.cst (.int 2)))) (.cons (.var 4 "_law_goal") (.cons (.var 8 "_law_one") (.cons (.var 9 "_law_other") .nil)))))) .nil))) .nil)) .nil)) (.cons (.exp (.mth (.idx (.var 1 "_law_e") (.cst (.str "rows"))) .app (.cons (.var 6 "_law_row") .nil))) (.cons (.ite (.cmp .NotEq (.idx (.var 6 "_law_row") (.cst (.int 0))) (.cst (.str "say"))) (.cons (.sub (.idx (.var 1 "_law_e") (.cst (.str "boxes"))) (.var 4 "_law_goal") (.ifx (.cmp .Eq (.idx (.var 6 "_law_row") (.cst (.int 0))) (.cst (.str "move"))) (.idx (.idx (.var 1 "_law_e") (.cst (.str "boxes"))) (.idx (.var 6 "_law_row") (.cst (.int 2)))) (.cst (.str "good")))) .nil) .nil) .nil))))))
def g__law_simple : Gx := mkG tb [("_law_next", f__law_next), ("_law_number", f__law_number)] [] [] 100000
def f__law_simple : Fn := runDef g__law_simple b__law_simple 2 10
@[simp] theorem cl__law_simple__law_next {es : CEs} {e : EnvD} {m : Mem} {Q : D → Mem → Prop} : OkE g__law_simple (.call "_law_next" es) e m Q ↔ OkL g__law_simple es e m fun vs m => Ok (f__law_next vs m) Q := w_call rfl rfl
@[simp] theorem cl__law_simple__law_number {es : CEs} {e : EnvD} {m : Mem} {Q : D → Mem → Prop} : OkE g__law_simple (.call "_law_number" es) e m Q ↔ OkL g__law_simple es e m fun vs m => Ok (f__law_number vs m) Q := w_call rfl rfl
def b__law_zeroed : CSs := (.cons (.asg (.nam 2 "_law_good") (.lc false (.var 3 "_law_box") (.nam 3 "_law_box") (.rng1 (.cst (.int 6))) (.cons (.cmp .Eq (.idx (.idx (.var 1 "_law_e") (.cst (.str "boxes"))) (.var 3 "_law_box")) (.cst (.str "good"))) .nil) [("_law_box", 3)])) (.cons (.ite (.cmp .Eq (.var 2 "_law_good") (.lst false .nil)) (.cons .retN .nil) .nil) (.cons (.asg (.nam 4 "_law_test") (.idx (.var 2 "_law_good") (.call "_law_next" (.cons (.var 0 "_law_h") (.cons (.blt .len (.cons (.var 2 "_law_good") .nil)) .nil))))) (.cons (.asg (.nam 5 "_law_place") (.blt .len (.cons (.idx (.var 1 "_law_e") (.cst (.str "rows"))) .nil))) (.cons (.exp (.mth (.idx (.var 1 "_law_e") (.cst (.str "rows"))) .app (.cons (.tup (.cons (.cst (.str "zero")) (.cons (.var 4 "_law_test") (.cons (.cst (.int 0)) .nil)))) .nil))) (.cons (.asg (.nam 6 "_law_before") (.lof false (.idx (.var 1 "_law_e") (.cst (.str "boxes"))))) (.cons (.loop (.nam 7 "_law_k") (.rng1 (.bin .Add (.cst (.int 1)) (.call "_law_next" (.cons (.var 0 "_law_h") (.cons (.cst (.int 2)) .nil))))) (.cons (.exp (.call "_law_simple" (.cons (.var 0 "_law_h") (.cons (.var 1 "_law_e") .nil)))) .nil)) (.cons (.ite (.bop .And (.cons (.cmp .Eq (.call "_law_next" (.cons (.var 0 "_law_h") (.cons (.cst (.int 4)) .nil))) (.cst (.int 0))) (.cons (.cmp .Eq (.idx (.idx (.var 1 "_law_e") (.cst (.str "boxes"))) (.var 4 "_law_test")) (.cst (.str "good"))) (.cons (.cmp .Eq (.var 6 "_law_before") (.idx (.var 1 "_law_e") (.cst (.str "boxes")))) .nil)))) (.cons (.exp (.mth (.idx (.var 1 "_law_e") (.cst (.str "rows"))) .app (.cons (.tup (.cons (.cst (.str "go")) (.cons (.var 5 "_law_place") .nil))) .nil))) .nil) .nil) (.cons (.sub (.idx (.var 1 "_law_e") (.cst (.str "rows"))) (.var 5 "_law_place") (.tup (.cons (.cst (.str "zero")) (.cons (.var 4 "_law_test") (.cons (.blt .len (.cons (.idx (.var 1 "_law_e") (.cst (.str "rows"))) .nil)) .nil))))) (.cons (.loop (.nam 3 "_law_box") (.rng1 (.cst (.int 6))) (.cons (.ite (.cmp .NotEq (.idx (.idx (.var 1 "_law_e") (.cst (.str "boxes"))) (.var 3 "_law_box")) (.idx (.var 6 "_law_before") (.var 3 "_law_box"))) (.cons (.sub (.idx (.var 1 "_law_e") (.cst (.str "boxes"))) (.var 3 "_law_box") (.cst (.str "loose"))) .nil) .nil) .nil)) .nil))))))))))
def g__law_zeroed : Gx := mkG tb [("_law_next", f__law_next), ("_law_simple", f__law_simple)] [] [] 100000
def f__law_zeroed : Fn := runDef g__law_zeroed b__law_zeroed 2 8
@[simp] theorem cl__law_zeroed__law_next {es : CEs} {e : EnvD} {m : Mem} {Q : D → Mem → Prop} : OkE g__law_zeroed (.call "_law_next" es) e m Q ↔ OkL g__law_zeroed es e m fun vs m => Ok (f__law_next vs m) Q := w_call rfl rfl
@[simp] theorem cl__law_zeroed__law_simple {es : CEs} {e : EnvD} {m : Mem} {Q : D → Mem → Prop} : OkE g__law_zeroed (.call "_law_simple" es) e m Q ↔ OkL g__law_zeroed es e m fun vs m => Ok (f__law_simple vs m) Q := w_call rfl rfl
def b__law_kept : CSs := (.cons (.asg (.tup [(5, "_law_ins"), (6, "_law_out"), (7, "_law_kept_here")]) (.idx (.var 1 "_law_houses") (.idx (.var 2 "_law_owners") (.var 3 "_law_number_here")))) (.cons (.asg (.nam 8 "_law_saved") (.lc false (.var 9 "_law_box") (.nam 9 "_law_box") (.seq (.var 7 "_law_kept_here")) (.cons (.cmp .Eq (.call "_law_next" (.cons (.var 0 "_law_h") (.cons (.cst (.int 2)) .nil))) (.cst (.int 0))) .nil) [("_law_box", 9)])) (.cons (.asg (.nam 10 "_law_e") (.dic true (.cons (.cst (.str "rows")) (.lc true (.tup (.cons (.cst (.str "push")) (.cons (.var 9 "_law_box") .nil))) (.nam 9 "_law_box") (.seq (.var 8 "_law_saved")) .nil [("_law_box", 9)]) (.cons (.cst (.str "houses")) (.var 1 "_law_houses") (.cons (.cst (.str "owners")) (.var 2 "_law_owners") .nil))))) (.cons (.sub (.var 10 "_law_e") (.cst (.str "boxes")) (.lc true (.ifx (.cmp .In (.var 9 "_law_box") (.var 5 "_law_ins")) (.cst (.str "good")) (.ifx (.cmp .In (.var 9 "_law_box") (.var 7 "_law_kept_here")) (.blt .str (.cons (.var 9 "_law_box") .nil)) (.cst (.str "loose")))) (.nam 9 "_law_box") (.rng1 (.cst (.int 6))) .nil [("_law_box", 9)])) (.cons (.sub (.var 10 "_law_e") (.cst (.str "free")) (.lc false (.var 9 "_law_box") (.nam 9 "_law_box") (.rng1 (.cst (.int 6))) (.cons (.bop .Or (.cons (.cmp .NotIn (.var 9 "_law_box") (.var 7 "_law_kept_here")) (.cons (.cmp .In (.var 9 "_law_box") (.var 8 "_law_saved")) .nil))) .nil) [("_law_box", 9)])) (.cons (.loop (.nam 11 "_law_k") (.rng1 (.call "_law_next" (.cons (.var 0 "_law_h") (.cons (.bin .Add (.var 4 "_law_most") (.cst (.int 1))) .nil)))) (.cons (.asg (.nam 12 "_law_turn") (.call "_law_next" (.cons (.var 0 "_law_h") (.cons (.cst (.int 8)) .nil)))) (.cons (.ite (.cmp .Lt (.var 12 "_law_turn") (.cst (.int 2))) (.cons (.exp (.call "_law_calling" (.cons (.var 0 "_law_h") (.cons (.var 10 "_law_e") .nil)))) .nil) (.cons (.ite (.cmp .Eq (.var 12 "_law_turn") (.cst (.int 2))) (.cons (.exp (.call "_law_zeroed" (.cons (.var 0 "_law_h") (.cons (.var 10 "_law_e") .nil)))) .nil) (.cons (.exp (.call "_law_simple" (.cons (.var 0 "_law_h") (.cons (.var 10 "_law_e") .nil)))) .nil)) .nil)) .nil))) (.cons (.ite (.cmp .NotEq (.idx (.idx (.var 10 "_law_e") (.cst (.str "boxes"))) (.var 6 "_law_out")) (.cst (.str "good"))) (.cons (.exp (.mth (.idx (.var 10 "_law_e") (.cst (.str "rows"))) .app (.cons (.tup (.cons (.cst (.str "put")) (.cons (.var 6 "_law_out") (.cons (.call "_law_number" (.cons (.var 0 "_law_h") .nil)) .nil)))) .nil))) .nil) .nil) (.cons (.asg (.nam 13 "_law_rows") (.bin .Add (.bin .Add (.idx (.var 10 "_law_e") (.cst (.str "rows"))) (.lc false (.tup (.cons (.cst (.str "pop")) (.cons (.var 9 "_law_box") .nil))) (.nam 9 "_law_box") (.rev (.var 8 "_law_saved")) .nil [("_law_box", 9)])) (.lst false (.cons (.tup (.cons (.cst (.str "back")) .nil)) .nil)))) (.cons (.ite (.cmp .Gt (.blt .len (.cons (.var 13 "_law_rows") .nil)) (.cst (.int 32))) (.cons (.asg (.nam 13 "_law_rows") (.lst false (.cons (.tup (.cons (.cst (.str "put")) (.cons (.var 6 "_law_out") (.cons (.cst (.int 1)) .nil)))) (.cons (.tup (.cons (.cst (.str "back")) .nil)) .nil)))) .nil) .nil) (.cons (.ret (.tup (.cons (.idx (.var 2 "_law_owners") (.var 3 "_law_number_here")) (.cons (.blt .tup (.cons (.var 13 "_law_rows") .nil)) .nil)))) .nil))))))))))
def g__law_kept : Gx := mkG tb [("_law_calling", f__law_calling), ("_law_next", f__law_next), ("_law_number", f__law_number), ("_law_simple", f__law_simple), ("_law_zeroed", f__law_zeroed)] [] [] 100000
def f__law_kept : Fn := runDef g__law_kept b__law_kept 5 14
@[simp] theorem cl__law_kept__law_calling {es : CEs} {e : EnvD} {m : Mem} {Q : D → Mem → Prop} : OkE g__law_kept (.call "_law_calling" es) e m Q ↔ OkL g__law_kept es e m fun vs m => Ok (f__law_calling vs m) Q := w_call rfl rfl
@[simp] theorem cl__law_kept__law_next {es : CEs} {e : EnvD} {m : Mem} {Q : D → Mem → Prop} : OkE g__law_kept (.call "_law_next" es) e m Q ↔ OkL g__law_kept es e m fun vs m => Ok (f__law_next vs m) Q := w_call rfl rfl
@[simp] theorem cl__law_kept__law_number {es : CEs} {e : EnvD} {m : Mem} {Q : D → Mem → Prop} : OkE g__law_kept (.call "_law_number" es) e m Q ↔ OkL g__law_kept es e m fun vs m => Ok (f__law_number vs m) Q := w_call rfl rfl
@[simp] theorem cl__law_kept__law_simple {es : CEs} {e : EnvD} {m : Mem} {Q : D → Mem → Prop} : OkE g__law_kept (.call "_law_simple" es) e m Q ↔ OkL g__law_kept es e m fun vs m => Ok (f__law_simple vs m) Q := w_call rfl rfl
@[simp] theorem cl__law_kept__law_zeroed {es : CEs} {e : EnvD} {m : Mem} {Q : D → Mem → Prop} : OkE g__law_kept (.call "_law_zeroed" es) e m Q ↔ OkL g__law_kept es e m fun vs m => Ok (f__law_zeroed vs m) Q := w_call rfl rfl
def b__law_program : CSs := (.cons (.asg (.nam 2 "_law_houses") (.blt .tup (.cons (.lc false (.call "_law_house" (.cons (.var 0 "_law_h") .nil)) (.nam 3 "_law_k") (.rng1 (.bin .Add (.cst (.int 1)) (.call "_law_next" (.cons (.var 0 "_law_h") (.cons (.cst (.int 3)) .nil))))) .nil [("_law_k", 3)]) .nil))) (.cons (.asg (.nam 4 "_law_owners") (.lc false (.call "_law_next" (.cons (.var 0 "_law_h") (.cons (.blt .len (.cons (.var 2 "_law_houses") .nil)) .nil))) (.nam 3 "_law_k") (.rng1 (.bin .Add (.cst (.int 1)) (.call "_law_next" (.cons (.var 0 "_law_h") (.cons (.var 1 "_law_most") .nil))))) .nil [("_law_k", 3)])) (.cons (.asg (.nam 5 "_law_size") (.idx (.lst false (.cons (.cst (.int 6)) (.cons (.cst (.int 14)) .nil))) (.call "_law_next" (.cons (.var 0 "_law_h") (.cons (.cst (.int 2)) .nil))))) (.cons (.ret (.tup (.cons (.var 2 "_law_houses") (.cons (.blt .tup (.cons (.lc false (.call "_law_kept" (.cons (.var 0 "_law_h") (.cons (.var 2 "_law_houses") (.cons (.var 4 "_law_owners") (.cons (.var 6 "_law_number_here") (.cons (.var 5 "_law_size") .nil)))))) (.nam 6 "_law_number_here") (.rng1 (.blt .len (.cons (.var 4 "_law_owners") .nil))) .nil [("_law_number_here", 6)]) .nil)) .nil)))) .nil))))
def g__law_program : Gx := mkG tb [("_law_house", f__law_house), ("_law_kept", f__law_kept), ("_law_next", f__law_next)] [] [] 100000
def f__law_program : Fn := runDef g__law_program b__law_program 2 7
@[simp] theorem cl__law_program__law_house {es : CEs} {e : EnvD} {m : Mem} {Q : D → Mem → Prop} : OkE g__law_program (.call "_law_house" es) e m Q ↔ OkL g__law_program es e m fun vs m => Ok (f__law_house vs m) Q := w_call rfl rfl
@[simp] theorem cl__law_program__law_kept {es : CEs} {e : EnvD} {m : Mem} {Q : D → Mem → Prop} : OkE g__law_program (.call "_law_kept" es) e m Q ↔ OkL g__law_program es e m fun vs m => Ok (f__law_kept vs m) Q := w_call rfl rfl
@[simp] theorem cl__law_program__law_next {es : CEs} {e : EnvD} {m : Mem} {Q : D → Mem → Prop} : OkE g__law_program (.call "_law_next" es) e m Q ↔ OkL g__law_program es e m fun vs m => Ok (f__law_next vs m) Q := w_call rfl rfl
def b__law_wild : CSs := (.cons (.asg (.nam 2 "_law_houses") (.blt .tup (.cons (.lc false (.call "_law_house" (.cons (.var 0 "_law_h") .nil)) (.nam 3 "_law_k") (.rng1 (.bin .Add (.cst (.int 1)) (.call "_law_next" (.cons (.var 0 "_law_h") (.cons (.cst (.int 3)) .nil))))) .nil [("_law_k", 3)]) .nil))) (.cons (.asg (.nam 4 "_law_many") (.bin .Add (.cst (.int 1)) (.call "_law_next" (.cons (.var 0 "_law_h") (.cons (.cst (.int 3)) .nil))))) (.cons (.asg (.nam 5 "_law_found") (.lst true .nil)) (.cons (.loop (.nam 3 "_law_k") (.rng1 (.var 4 "_law_many")) (.cons (.asg (.nam 6 "_law_rows") (.bin .Add (.cst (.int 1)) (.call "_law_next" (.cons (.var 0 "_law_h") (.cons (.var 1 "_law_most") .nil))))) (.cons (.asg (.nam 7 "_law_some") (.bin .Add (.lc false (.call "_law_wild_row" (.cons (.var 0 "_law_h") (.cons (.var 6 "_law_rows") (.cons (.var 4 "_law_many") .nil)))) (.nam 8 "_law_row") (.rng1 (.bin .Sub (.var 6 "_law_rows") (.cst (.int 1)))) .nil [("_law_row", 8)]) (.lst false (.cons (.idx (.lst false (.cons (.tup (.cons (.cst (.str "back")) .nil)) (.cons (.tup (.cons (.cst (.str "go")) (.cons (.cst (.int 0)) .nil))) .nil))) (.call "_law_next" (.cons (.var 0 "_law_h") (.cons (.cst (.int 2)) .nil)))) .nil)))) (.cons (.exp (.mth (.var 5 "_law_found") .app (.cons (.tup (.cons (.call "_law_next" (.cons (.var 0 "_law_h") (.cons (.blt .len (.cons (.var 2 "_law_houses") .nil)) .nil))) (.cons (.blt .tup (.cons (.var 7 "_law_some") .nil)) .nil))) .nil))) .nil)))) (.cons (.ret (.tup (.cons (.var 2 "_law_houses") (.cons (.blt .tup (.cons (.var 5 "_law_found") .nil)) .nil)))) .nil)))))
def g__law_wild : Gx := mkG tb [("_law_house", f__law_house), ("_law_next", f__law_next), ("_law_wild_row", f__law_wild_row)] [] [] 100000
def f__law_wild : Fn := runDef g__law_wild b__law_wild 2 9
@[simp] theorem cl__law_wild__law_house {es : CEs} {e : EnvD} {m : Mem} {Q : D → Mem → Prop} : OkE g__law_wild (.call "_law_house" es) e m Q ↔ OkL g__law_wild es e m fun vs m => Ok (f__law_house vs m) Q := w_call rfl rfl
@[simp] theorem cl__law_wild__law_next {es : CEs} {e : EnvD} {m : Mem} {Q : D → Mem → Prop} : OkE g__law_wild (.call "_law_next" es) e m Q ↔ OkL g__law_wild es e m fun vs m => Ok (f__law_next vs m) Q := w_call rfl rfl
@[simp] theorem cl__law_wild__law_wild_row {es : CEs} {e : EnvD} {m : Mem} {Q : D → Mem → Prop} : OkE g__law_wild (.call "_law_wild_row" es) e m Q ↔ OkL g__law_wild es e m fun vs m => Ok (f__law_wild_row vs m) Q := w_call rfl rfl
def b__law_any : CSs := (.cons (.asg (.nam 1 "_law_turn") (.call "_law_next" (.cons (.var 0 "_law_h") (.cons (.cst (.int 5)) .nil)))) (.cons (.ite (.cmp .Eq (.var 1 "_law_turn") (.cst (.int 4))) (.cons (.ret (.call "_law_wild" (.cons (.var 0 "_law_h") (.cons (.idx (.lst false (.cons (.cst (.int 6)) (.cons (.cst (.int 20)) (.cons (.cst (.int 32)) .nil)))) (.call "_law_next" (.cons (.var 0 "_law_h") (.cons (.cst (.int 3)) .nil)))) .nil)))) .nil) .nil) (.cons (.asg (.nam 2 "_law_program_here") (.call "_law_program" (.cons (.var 0 "_law_h") (.cons (.cst (.int 6)) .nil)))) (.cons (.ret (.ifx (.cmp .Eq (.var 1 "_law_turn") (.cst (.int 0))) (.var 2 "_law_program_here") (.call "_law_odd" (.cons (.var 0 "_law_h") (.cons (.var 2 "_law_program_here") (.cons (.bin .Add (.cst (.int 1)) (.call "_law_next" (.cons (.var 0 "_law_h") (.cons (.cst (.int 2)) .nil)))) .nil)))))) .nil))))
def g__law_any : Gx := mkG tb [("_law_next", f__law_next), ("_law_odd", f__law_odd), ("_law_program", f__law_program), ("_law_wild", f__law_wild)] [] [] 100000
def f__law_any : Fn := runDef g__law_any b__law_any 1 3
@[simp] theorem cl__law_any__law_next {es : CEs} {e : EnvD} {m : Mem} {Q : D → Mem → Prop} : OkE g__law_any (.call "_law_next" es) e m Q ↔ OkL g__law_any es e m fun vs m => Ok (f__law_next vs m) Q := w_call rfl rfl
@[simp] theorem cl__law_any__law_odd {es : CEs} {e : EnvD} {m : Mem} {Q : D → Mem → Prop} : OkE g__law_any (.call "_law_odd" es) e m Q ↔ OkL g__law_any es e m fun vs m => Ok (f__law_odd vs m) Q := w_call rfl rfl
@[simp] theorem cl__law_any__law_program {es : CEs} {e : EnvD} {m : Mem} {Q : D → Mem → Prop} : OkE g__law_any (.call "_law_program" es) e m Q ↔ OkL g__law_any es e m fun vs m => Ok (f__law_program vs m) Q := w_call rfl rfl
@[simp] theorem cl__law_any__law_wild {es : CEs} {e : EnvD} {m : Mem} {Q : D → Mem → Prop} : OkE g__law_any (.call "_law_wild" es) e m Q ↔ OkL g__law_any es e m fun vs m => Ok (f__law_wild vs m) Q := w_call rfl rfl
def b__law_mix : CSs := (.cons (.asg (.nam 2 "_law_mixed") (.var 1 "_law_seed")) (.cons (.loop (.nam 3 "_law_cell") (.seq (.var 0 "_law_script")) (.cons (.asg (.nam 2 "_law_mixed") (.bin .Mod (.bin .Add (.bin .Add (.bin .Mult (.var 2 "_law_mixed") (.cst (.int 48271))) (.bin .Mod (.var 3 "_law_cell") (.cst (.int 2147483629)))) (.cst (.int 1))) (.cst (.int 2147483647)))) .nil)) (.cons (.ret (.lst true (.cons (.var 2 "_law_mixed") (.cons (.lof true (.var 0 "_law_script")) (.cons (.cst (.int 0)) .nil))))) .nil)))
def g__law_mix : Gx := mkG tb [] [] [] 100000
def f__law_mix : Fn := runDef g__law_mix b__law_mix 2 4
def b__law_put_in : CSs := (.cons (.asg (.tup [(3, "_law_houses"), (4, "_law_routines")]) (.var 0 "_law_program_here")) (.cons (.asg (.tup [(5, "_law_house_here"), (6, "_law_rows")]) (.idx (.var 4 "_law_routines") (.var 1 "_law_number_here"))) (.cons (.asg (.nam 7 "_law_whole") (.lc false (.var 9 "_law_box") (.tup [(8, "_law_row"), (9, "_law_box")]) (.seq (.var 2 "_law_saves_here")) (.cons (.cmp .Eq (.var 8 "_law_row") (.neg (.cst (.int 1)))) .nil) [("_law_row", 8), ("_law_box", 9)])) (.cons (.asg (.nam 10 "_law_found") (.lc true (.tup (.cons (.cst (.str "push")) (.cons (.var 9 "_law_box") .nil))) (.nam 9 "_law_box") (.seq (.var 7 "_law_whole")) .nil [("_law_box", 9)])) (.cons (.asg (.nam 11 "_law_begins") (.lst true .nil)) (.cons (.loop (.nam 12 "_law_k") (.rng1 (.blt .len (.cons (.var 6 "_law_rows") .nil))) (.cons (.exp (.mth (.var 11 "_law_begins") .app (.cons (.blt .len (.cons (.var 10 "_law_found") .nil)) .nil))) (.cons (.asg (.nam 13 "_law_about") (.lc false (.var 9 "_law_box") (.tup [(8, "_law_row"), (9, "_law_box")]) (.seq (.var 2 "_law_saves_here")) (.cons (.cmp .Eq (.var 8 "_law_row") (.var 12 "_law_k")) .nil) [("_law_row", 8), ("_law_box", 9)])) (.cons (.exp (.mth (.var 10 "_law_found") .ext (.cons (.lc false (.tup (.cons (.cst (.str "push")) (.cons (.var 9 "_law_box") .nil))) (.nam 9 "_law_box") (.seq (.var 13 "_law_about")) .nil [("_law_box", 9)]) .nil))) (.cons (.ite (.cmp .Eq (.idx (.var 6 "_law_rows") (.var 12 "_law_k")) (.tup (.cons (.cst (.str "back")) .nil))) (.cons (.exp (.mth (.var 10 "_law_found") .ext (.cons (.lc false (.tup (.cons (.cst (.str "pop")) (.cons (.var 9 "_law_box") .nil))) (.nam 9 "_law_box") (.seq (.rev (.var 7 "_law_whole"))) .nil [("_law_box", 9)]) .nil))) .nil) .nil) (.cons (.exp (.mth (.var 10 "_law_found") .app (.cons (.idx (.var 6 "_law_rows") (.var 12 "_law_k")) .nil))) (.cons (.exp (.mth (.var 10 "_law_found") .ext (.cons (.lc false (.tup (.cons (.cst (.str "pop")) (.cons (.var 9 "_law_box") .nil))) (.nam 9 "_law_box") (.seq (.rev (.var 13 "_law_about"))) .nil [("_law_box", 9)]) .nil))) .nil))))))) (.cons (.asg (.nam 10 "_law_found") (.lc true (.ifx (.cmp .In (.idx (.var 8 "_law_row") (.cst (.int 0))) (.tup (.cons (.cst (.str "zero")) (.cons (.cst (.str "go")) .nil)))) (.bin .Add (.sli (.var 8 "_law_row") .no (.yes (.neg (.cst (.int 1))))) (.tup (.cons (.idx (.var 11 "_law_begins") (.idx (.var 8 "_law_row") (.neg (.cst (.int 1))))) .nil))) (.var 8 "_law_row")) (.nam 8 "_law_row") (.seq (.var 10 "_law_found")) .nil [("_law_row", 8)])) (.cons (.ret (.tup (.cons (.var 3 "_law_houses") (.cons (.bin .Add (.bin .Add (.sli (.var 4 "_law_routines") .no (.yes (.var 1 "_law_number_here"))) (.tup (.cons (.tup (.cons (.var 5 "_law_house_here") (.cons (.blt .tup (.cons (.var 10 "_law_found") .nil)) .nil))) .nil))) (.sli (.var 4 "_law_routines") (.yes (.bin .Add (.var 1 "_law_number_here") (.cst (.int 1)))) .no)) .nil)))) .nil))))))))
def g__law_put_in : Gx := mkG tb [] [] [] 100000
def f__law_put_in : Fn := runDef g__law_put_in b__law_put_in 3 14
def b__law_saves : CSs := (.cons (.asg (.nam 4 "_law_rows") (.idx (.idx (.idx (.var 1 "_law_program_here") (.cst (.int 1))) (.var 2 "_law_number_here")) (.cst (.int 1)))) (.cons (.asg (.nam 5 "_law_places") (.bin .Add (.lst false (.cons (.neg (.cst (.int 1))) (.cons (.neg (.cst (.int 1))) .nil))) (.lc false (.var 6 "_law_row") (.nam 6 "_law_row") (.rng1 (.blt .len (.cons (.var 4 "_law_rows") .nil))) (.cons (.cmp .Eq (.idx (.idx (.var 4 "_law_rows") (.var 6 "_law_row")) (.cst (.int 0))) (.cst (.str "call"))) .nil) [("_law_row", 6)]))) (.cons (.asg (.nam 7 "_law_some") (.lst true .nil)) (.cons (.loop (.nam 8 "_law_k") (.rng1 (.call "_law_next" (.cons (.var 0 "_law_h") (.cons (.bin .Add (.var 3 "_law_most") (.cst (.int 1))) .nil)))) (.cons (.asg (.nam 9 "_law_place") (.idx (.var 5 "_law_places") (.call "_law_next" (.cons (.var 0 "_law_h") (.cons (.blt .len (.cons (.var 5 "_law_places") .nil)) .nil))))) (.cons (.asg (.nam 10 "_law_told") (.idx (.idx (.idx (.var 1 "_law_program_here") (.cst (.int 0))) (.idx (.idx (.idx (.var 1 "_law_program_here") (.cst (.int 1))) (.ifx (.cmp .Lt (.var 9 "_law_place") (.cst (.int 0))) (.var 2 "_law_number_here") (.idx (.idx (.var 4 "_law_rows") (.var 9 "_law_place")) (.cst (.int 1))))) (.cst (.int 0)))) (.cst (.int 1)))) (.cons (.exp (.mth (.var 7 "_law_some") .app (.cons (.tup (.cons (.var 9 "_law_place") (.cons (.bin .Mod (.bin .Add (.bin .Add (.var 10 "_law_told") (.cst (.int 1))) (.call "_law_next" (.cons (.var 0 "_law_h") (.cons (.cst (.int 5)) .nil)))) (.cst (.int 6))) .nil))) .nil))) .nil)))) (.cons (.ret (.x1 .srp (.var 7 "_law_some"))) .nil)))))
def g__law_saves : Gx := mkG tb [("_law_next", f__law_next)] [] [] 100000
def f__law_saves : Fn := runDef g__law_saves b__law_saves 4 11
@[simp] theorem cl__law_saves__law_next {es : CEs} {e : EnvD} {m : Mem} {Q : D → Mem → Prop} : OkE g__law_saves (.call "_law_next" es) e m Q ↔ OkL g__law_saves es e m fun vs m => Ok (f__law_next vs m) Q := w_call rfl rfl
def b_is_number : CSs := (.cons (.ret (.bop .And (.cons (.isi (.var 0 "part") true [.int]) (.cons (.nott (.isi (.var 0 "part") true [.bool])) (.cons (.cmp2 .LtE .LtE (.var 1 "low") (.var 0 "part") (.var 2 "high")) .nil))))) .nil)
def g_is_number : Gx := mkG tb [] [] [] 100000
def f_is_number : Fn := runDef g_is_number b_is_number 3 3
def b_are_boxes : CSs := (.cons (.ite (.bop .Or (.cons (.nott (.isi (.var 0 "boxes") true [.tup])) (.cons (.cmp .NotEq (.lc false (.var 1 "box") (.nam 1 "box") (.seq (.var 0 "boxes")) (.cons (.nott (.call "is_number" (.cons (.var 1 "box") (.cons (.cst (.int 0)) (.cons (.bin .Sub (.glb "BOXES") (.cst (.int 1))) .nil))))) .nil) [("box", 1)]) (.lst false .nil)) .nil))) (.cons (.ret (.cst (.bl false))) .nil) .nil) (.cons (.ret (.cmp .Eq (.lof false (.var 0 "boxes")) (.srs (.var 0 "boxes")))) .nil))
def g_are_boxes : Gx := mkG tb [("is_number", f_is_number)] [] [] 100000
def f_are_boxes : Fn := runDef g_are_boxes b_are_boxes 1 2
@[simp] theorem cl_are_boxes_is_number {es : CEs} {e : EnvD} {m : Mem} {Q : D → Mem → Prop} : OkE g_are_boxes (.call "is_number" es) e m Q ↔ OkL g_are_boxes es e m fun vs m => Ok (f_is_number vs m) Q := w_call rfl rfl
@[simp] theorem co_are_boxes_BOXES : g_are_boxes.con "BOXES" = some (.int 6) := rfl
def b_is_house : CSs := (.cons (.ite (.bop .Or (.cons (.nott (.isi (.var 0 "house") true [.tup])) (.cons (.cmp .NotEq (.blt .len (.cons (.var 0 "house") .nil)) (.cst (.int 3))) .nil))) (.cons (.ret (.cst (.bl false))) .nil) .nil) (.cons (.asg (.tup [(1, "ins"), (2, "out"), (3, "kept")]) (.var 0 "house")) (.cons (.ite (.bop .Or (.cons (.nott (.call "are_boxes" (.cons (.var 1 "ins") .nil))) (.cons (.nott (.call "is_number" (.cons (.var 2 "out") (.cons (.cst (.int 0)) (.cons (.bin .Sub (.glb "BOXES") (.cst (.int 1))) .nil))))) (.cons (.nott (.call "are_boxes" (.cons (.var 3 "kept") .nil))) .nil)))) (.cons (.ret (.cst (.bl false))) .nil) .nil) (.cons (.ret (.bop .And (.cons (.cmp .NotIn (.var 2 "out") (.var 3 "kept")) (.cons (.cmp .Eq (.lc false (.var 4 "box") (.nam 4 "box") (.seq (.var 1 "ins")) (.cons (.cmp .In (.var 4 "box") (.var 3 "kept")) .nil) [("box", 4)]) (.lst false .nil)) .nil)))) .nil))))
def g_is_house : Gx := mkG tb [("are_boxes", f_are_boxes), ("is_number", f_is_number)] [] [] 100000
def f_is_house : Fn := runDef g_is_house b_is_house 1 5
@[simp] theorem cl_is_house_are_boxes {es : CEs} {e : EnvD} {m : Mem} {Q : D → Mem → Prop} : OkE g_is_house (.call "are_boxes" es) e m Q ↔ OkL g_is_house es e m fun vs m => Ok (f_are_boxes vs m) Q := w_call rfl rfl
@[simp] theorem cl_is_house_is_number {es : CEs} {e : EnvD} {m : Mem} {Q : D → Mem → Prop} : OkE g_is_house (.call "is_number" es) e m Q ↔ OkL g_is_house es e m fun vs m => Ok (f_is_number vs m) Q := w_call rfl rfl
@[simp] theorem co_is_house_BOXES : g_is_house.con "BOXES" = some (.int 6) := rfl
def b_is_row : CSs := (.cons (.ite (.bop .Or (.cons (.nott (.isi (.var 0 "row") true [.tup])) (.cons (.cmp .Eq (.var 0 "row") (.tup .nil)) (.cons (.nott (.isi (.idx (.var 0 "row") (.cst (.int 0))) true [.str])) (.cons (.cmp .NotIn (.idx (.var 0 "row") (.cst (.int 0))) (.glb "FORMS")) .nil))))) (.cons (.ret (.cst (.bl false))) .nil) .nil) (.cons (.asg (.nam 3 "most") (.dic false (.cons (.cst (.str "b")) (.glb "BOXES") (.cons (.cst (.str "n")) (.glb "RING") (.cons (.cst (.str "r")) (.var 1 "rows") (.cons (.cst (.str "u")) (.var 2 "routines") .nil)))))) (.cons (.asg (.nam 4 "form") (.idx (.glb "FORMS") (.idx (.var 0 "row") (.cst (.int 0))))) (.cons (.ite (.cmp .NotEq (.blt .len (.cons (.var 0 "row") .nil)) (.bin .Add (.blt .len (.cons (.var 4 "form") .nil)) (.cst (.int 1)))) (.cons (.ret (.cst (.bl false))) .nil) .nil) (.cons (.ret (.cmp .Eq (.lc false (.var 5 "part") (.tup [(5, "part"), (6, "sort")]) (.zip (.sli (.var 0 "row") (.yes (.cst (.int 1))) .no) (.var 4 "form")) (.cons (.nott (.call "is_number" (.cons (.var 5 "part") (.cons (.cst (.int 0)) (.cons (.bin .Sub (.idx (.var 3 "most") (.var 6 "sort")) (.cst (.int 1))) .nil))))) .nil) [("part", 5), ("sort", 6)]) (.lst false .nil))) .nil)))))
def g_is_row : Gx := mkG tb [("is_number", f_is_number)] [] [] 100000
def f_is_row : Fn := runDef g_is_row b_is_row 3 7
@[simp] theorem cl_is_row_is_number {es : CEs} {e : EnvD} {m : Mem} {Q : D → Mem → Prop} : OkE g_is_row (.call "is_number" es) e m Q ↔ OkL g_is_row es e m fun vs m => Ok (f_is_number vs m) Q := w_call rfl rfl
@[simp] theorem co_is_row_BOXES : g_is_row.con "BOXES" = some (.int 6) := rfl
@[simp] theorem co_is_row_RING : g_is_row.con "RING" = some (.int 1000) := rfl
@[simp] theorem co_is_row_FORMS : g_is_row.con "FORMS" = some (.gd "FORMS") := rfl
@[simp] theorem dc_is_row_FORMS : g_is_row.dcs "FORMS" = some (dvs t_FORMS) := rfl
def b_need_routine : CSs := (.cons (.asg (.nam 4 "good") (.bop .And (.cons (.isi (.var 1 "routine") true [.tup]) (.cons (.cmp .Eq (.blt .len (.cons (.var 1 "routine") .nil)) (.cst (.int 2))) (.cons (.call "is_number" (.cons (.idx (.var 1 "routine") (.cst (.int 0))) (.cons (.cst (.int 0)) (.cons (.bin .Sub (.var 2 "houses") (.cst (.int 1))) .nil)))) .nil))))) (.cons (.ite (.bop .Or (.cons (.nott (.var 4 "good")) (.cons (.nott (.isi (.idx (.var 1 "routine") (.cst (.int 1))) true [.tup])) (.cons (.nott (.cmp2 .LtE .LtE (.cst (.int 1)) (.blt .len (.cons (.idx (.var 1 "routine") (.cst (.int 1))) .nil)) (.glb "MOST_ROWS"))) .nil)))) (.cons (.rse "" .nil) .nil) .nil) (.cons (.asg (.nam 5 "rows") (.idx (.var 1 "routine") (.cst (.int 1)))) (.cons (.loop (.nam 6 "row") (.rng1 (.blt .len (.cons (.var 5 "rows") .nil))) (.cons (.ite (.nott (.call "is_row" (.cons (.idx (.var 5 "rows") (.var 6 "row")) (.cons (.blt .len (.cons (.var 5 "rows") .nil)) (.cons (.var 3 "routines") .nil))))) (.cons (.rse "" .nil) .nil) .nil) .nil)) (.cons (.ite (.cmp .NotIn (.idx (.idx (.var 5 "rows") (.neg (.cst (.int 1)))) (.cst (.int 0))) (.tup (.cons (.cst (.str "go")) (.cons (.cst (.str "back")) .nil)))) (.cons (.rse "" .nil) .nil) .nil) .nil)))))
def g_need_routine : Gx := mkG tb [("is_number", f_is_number), ("is_row", f_is_row)] [] [] 100000
def f_need_routine : Fn := runDef g_need_routine b_need_routine 4 7
@[simp] theorem cl_need_routine_is_number {es : CEs} {e : EnvD} {m : Mem} {Q : D → Mem → Prop} : OkE g_need_routine (.call "is_number" es) e m Q ↔ OkL g_need_routine es e m fun vs m => Ok (f_is_number vs m) Q := w_call rfl rfl
@[simp] theorem cl_need_routine_is_row {es : CEs} {e : EnvD} {m : Mem} {Q : D → Mem → Prop} : OkE g_need_routine (.call "is_row" es) e m Q ↔ OkL g_need_routine es e m fun vs m => Ok (f_is_row vs m) Q := w_call rfl rfl
@[simp] theorem co_need_routine_MOST_ROWS : g_need_routine.con "MOST_ROWS" = some (.int 32) := rfl
def b_need_program : CSs := (.cons (.ite (.bop .Or (.cons (.nott (.isi (.var 0 "program") true [.tup])) (.cons (.cmp .NotEq (.blt .len (.cons (.var 0 "program") .nil)) (.cst (.int 2))) .nil))) (.cons (.rse "" .nil) .nil) .nil) (.cons (.asg (.tup [(1, "houses"), (2, "routines")]) (.var 0 "program")) (.cons (.ite (.bop .Or (.cons (.nott (.isi (.var 1 "houses") true [.tup])) (.cons (.nott (.cmp2 .LtE .LtE (.cst (.int 1)) (.blt .len (.cons (.var 1 "houses") .nil)) (.glb "MOST_HOUSES"))) .nil))) (.cons (.rse "" .nil) .nil) .nil) (.cons (.loop (.nam 3 "number") (.rng1 (.blt .len (.cons (.var 1 "houses") .nil))) (.cons (.ite (.nott (.call "is_house" (.cons (.idx (.var 1 "houses") (.var 3 "number")) .nil))) (.cons (.rse "" .nil) .nil) .nil) .nil)) (.cons (.ite (.bop .Or (.cons (.nott (.isi (.var 2 "routines") true [.tup])) (.cons (.nott (.cmp2 .LtE .LtE (.cst (.int 1)) (.blt .len (.cons (.var 2 "routines") .nil)) (.glb "MOST_ROUTINES"))) .nil))) (.cons (.rse "" .nil) .nil) .nil) (.cons (.loop (.nam 3 "number") (.rng1 (.blt .len (.cons (.var 2 "routines") .nil))) (.cons (.exp (.call "need_routine" (.cons (.var 3 "number") (.cons (.idx (.var 2 "routines") (.var 3 "number")) (.cons (.blt .len (.cons (.var 1 "houses") .nil)) (.cons (.blt .len (.cons (.var 2 "routines") .nil)) .nil)))))) .nil)) .nil))))))
def g_need_program : Gx := mkG tb [("is_house", f_is_house), ("need_routine", f_need_routine)] [] [] 100000
def f_need_program : Fn := runDef g_need_program b_need_program 1 4
@[simp] theorem cl_need_program_is_house {es : CEs} {e : EnvD} {m : Mem} {Q : D → Mem → Prop} : OkE g_need_program (.call "is_house" es) e m Q ↔ OkL g_need_program es e m fun vs m => Ok (f_is_house vs m) Q := w_call rfl rfl
@[simp] theorem cl_need_program_need_routine {es : CEs} {e : EnvD} {m : Mem} {Q : D → Mem → Prop} : OkE g_need_program (.call "need_routine" es) e m Q ↔ OkL g_need_program es e m fun vs m => Ok (f_need_routine vs m) Q := w_call rfl rfl
@[simp] theorem co_need_program_MOST_HOUSES : g_need_program.con "MOST_HOUSES" = some (.int 3) := rfl
@[simp] theorem co_need_program_MOST_ROUTINES : g_need_program.con "MOST_ROUTINES" = some (.int 6) := rfl
def b_need_both : CSs := (.cons (.exp (.call "need_program" (.cons (.var 0 "program") .nil))) (.cons (.ite (.nott (.call "is_number" (.cons (.var 1 "routine") (.cons (.cst (.int 0)) (.cons (.bin .Sub (.blt .len (.cons (.idx (.var 0 "program") (.cst (.int 1))) .nil)) (.cst (.int 1))) .nil))))) (.cons (.rse "BadNumber" .nil) .nil) .nil) .nil))
def g_need_both : Gx := mkG tb [("is_number", f_is_number), ("need_program", f_need_program)] [] [] 100000
def f_need_both : Fn := runDef g_need_both b_need_both 2 2
@[simp] theorem cl_need_both_is_number {es : CEs} {e : EnvD} {m : Mem} {Q : D → Mem → Prop} : OkE g_need_both (.call "is_number" es) e m Q ↔ OkL g_need_both es e m fun vs m => Ok (f_is_number vs m) Q := w_call rfl rfl
@[simp] theorem cl_need_both_need_program {es : CEs} {e : EnvD} {m : Mem} {Q : D → Mem → Prop} : OkE g_need_both (.call "need_program" es) e m Q ↔ OkL g_need_both es e m fun vs m => Ok (f_need_program vs m) Q := w_call rfl rfl
def b_calls_of : CSs := (.cons (.asg (.nam 2 "rows") (.idx (.idx (.idx (.var 0 "program") (.cst (.int 1))) (.var 1 "routine")) (.cst (.int 1)))) (.cons (.ret (.lc false (.var 3 "row") (.nam 3 "row") (.rng1 (.blt .len (.cons (.var 2 "rows") .nil))) (.cons (.cmp .Eq (.idx (.idx (.var 2 "rows") (.var 3 "row")) (.cst (.int 0))) (.cst (.str "call"))) .nil) [("row", 3)])) .nil))
def g_calls_of : Gx := mkG tb [] [] [] 100000
def f_calls_of : Fn := runDef g_calls_of b_calls_of 2 4
def b_house_of : CSs := (.cons (.ret (.idx (.idx (.var 0 "program") (.cst (.int 0))) (.idx (.idx (.idx (.var 0 "program") (.cst (.int 1))) (.var 1 "routine")) (.cst (.int 0))))) .nil)
def g_house_of : Gx := mkG tb [] [] [] 100000
def f_house_of : Fn := runDef g_house_of b_house_of 2 2
def b_all_saves : CSs := (.cons (.asg (.nam 2 "rows") (.idx (.idx (.idx (.var 0 "program") (.cst (.int 1))) (.var 1 "routine")) (.cst (.int 1)))) (.cons (.asg (.nam 3 "found") (.lc true (.tup (.cons (.neg (.cst (.int 1))) (.cons (.var 4 "box") .nil))) (.nam 4 "box") (.rng1 (.glb "BOXES")) (.cons (.cmp .NotEq (.var 4 "box") (.idx (.call "house_of" (.cons (.var 0 "program") (.cons (.var 1 "routine") .nil))) (.cst (.int 1)))) .nil) [("box", 4)])) (.cons (.loop (.nam 5 "row") (.seq (.call "calls_of" (.cons (.var 0 "program") (.cons (.var 1 "routine") .nil)))) (.cons (.asg (.nam 6 "out") (.idx (.call "house_of" (.cons (.var 0 "program") (.cons (.idx (.idx (.var 2 "rows") (.var 5 "row")) (.cst (.int 1))) .nil))) (.cst (.int 1)))) (.cons (.exp (.mth (.var 3 "found") .ext (.cons (.lc false (.tup (.cons (.var 5 "row") (.cons (.var 4 "box") .nil))) (.nam 4 "box") (.rng1 (.glb "BOXES")) (.cons (.cmp .NotEq (.var 4 "box") (.var 6 "out")) .nil) [("box", 4)]) .nil))) .nil))) (.cons (.ret (.var 3 "found")) .nil))))
def g_all_saves : Gx := mkG tb [("calls_of", f_calls_of), ("house_of", f_house_of)] [] [] 100000
def f_all_saves : Fn := runDef g_all_saves b_all_saves 2 7
@[simp] theorem cl_all_saves_calls_of {es : CEs} {e : EnvD} {m : Mem} {Q : D → Mem → Prop} : OkE g_all_saves (.call "calls_of" es) e m Q ↔ OkL g_all_saves es e m fun vs m => Ok (f_calls_of vs m) Q := w_call rfl rfl
@[simp] theorem cl_all_saves_house_of {es : CEs} {e : EnvD} {m : Mem} {Q : D → Mem → Prop} : OkE g_all_saves (.call "house_of" es) e m Q ↔ OkL g_all_saves es e m fun vs m => Ok (f_house_of vs m) Q := w_call rfl rfl
@[simp] theorem co_all_saves_BOXES : g_all_saves.con "BOXES" = some (.int 6) := rfl
def b_is_save : CSs := (.cons (.ite (.bop .Or (.cons (.nott (.isi (.var 0 "save") true [.tup])) (.cons (.cmp .NotEq (.blt .len (.cons (.var 0 "save") .nil)) (.cst (.int 2))) .nil))) (.cons (.ret (.cst (.bl false))) .nil) .nil) (.cons (.ret (.bop .And (.cons (.call "is_number" (.cons (.idx (.var 0 "save") (.cst (.int 0))) (.cons (.neg (.cst (.int 1))) (.cons (.glb "MOST_ROWS") .nil)))) (.cons (.call "is_number" (.cons (.idx (.var 0 "save") (.cst (.int 1))) (.cons (.cst (.int 0)) (.cons (.bin .Sub (.glb "BOXES") (.cst (.int 1))) .nil)))) (.cons (.cmp .In (.var 0 "save") (.var 1 "every")) .nil))))) .nil))
def g_is_save : Gx := mkG tb [("is_number", f_is_number)] [] [] 100000
def f_is_save : Fn := runDef g_is_save b_is_save 2 2
@[simp] theorem cl_is_save_is_number {es : CEs} {e : EnvD} {m : Mem} {Q : D → Mem → Prop} : OkE g_is_save (.call "is_number" es) e m Q ↔ OkL g_is_save es e m fun vs m => Ok (f_is_number vs m) Q := w_call rfl rfl
@[simp] theorem co_is_save_BOXES : g_is_save.con "BOXES" = some (.int 6) := rfl
@[simp] theorem co_is_save_MOST_ROWS : g_is_save.con "MOST_ROWS" = some (.int 32) := rfl
def b_need_saves : CSs := (.cons (.asg (.nam 3 "every") (.call "all_saves" (.cons (.var 0 "program") (.cons (.var 1 "routine") .nil)))) (.cons (.ite (.cmp .NotEq (.lc false (.var 4 "save") (.nam 4 "save") (.seq (.var 2 "saves")) (.cons (.nott (.call "is_save" (.cons (.var 4 "save") (.cons (.var 3 "every") .nil)))) .nil) [("save", 4)]) (.lst false .nil)) (.cons (.rse "BadSaves" .nil) .nil) .nil) (.cons (.ite (.cmp .NotEq (.lof false (.var 2 "saves")) (.x1 .srp (.var 2 "saves"))) (.cons (.rse "BadSaves" .nil) .nil) .nil) .nil)))
def g_need_saves : Gx := mkG tb [("all_saves", f_all_saves), ("is_save", f_is_save)] [] [] 100000
def f_need_saves : Fn := runDef g_need_saves b_need_saves 3 5
@[simp] theorem cl_need_saves_all_saves {es : CEs} {e : EnvD} {m : Mem} {Q : D → Mem → Prop} : OkE g_need_saves (.call "all_saves" es) e m Q ↔ OkL g_need_saves es e m fun vs m => Ok (f_all_saves vs m) Q := w_call rfl rfl
@[simp] theorem cl_need_saves_is_save {es : CEs} {e : EnvD} {m : Mem} {Q : D → Mem → Prop} : OkE g_need_saves (.call "is_save" es) e m Q ↔ OkL g_need_saves es e m fun vs m => Ok (f_is_save vs m) Q := w_call rfl rfl
def b_Putter_lay : CSs := (.cons (.asg (.nam 2 "row") (.idx (.att (.var 0 "self") "rows") (.var 1 "number"))) (.cons (.asg (.nam 3 "about") (.mth (.att (.var 0 "self") "saves") .get (.cons (.var 1 "number") (.cons (.lst false .nil) .nil)))) (.cons (.exp (.mth (.att (.var 0 "self") "found") .ext (.cons (.lc false (.tup (.cons (.cst (.str "push")) (.cons (.var 4 "box") .nil))) (.nam 4 "box") (.seq (.var 3 "about")) .nil [("box", 4)]) .nil))) (.cons (.ite (.cmp .Eq (.idx (.var 2 "row") (.cst (.int 0))) (.cst (.str "back"))) (.cons (.exp (.mth (.att (.var 0 "self") "found") .ext (.cons (.lc false (.tup (.cons (.cst (.str "pop")) (.cons (.var 4 "box") .nil))) (.nam 4 "box") (.rev (.mth (.att (.var 0 "self") "saves") .get (.cons (.neg (.cst (.int 1))) (.cons (.lst false .nil) .nil)))) .nil [("box", 4)]) .nil))) .nil) .nil) (.cons (.exp (.mth (.att (.var 0 "self") "found") .app (.cons (.var 2 "row") .nil))) (.cons (.exp (.mth (.att (.var 0 "self") "found") .ext (.cons (.lc false (.tup (.cons (.cst (.str "pop")) (.cons (.var 4 "box") .nil))) (.nam 4 "box") (.rev (.var 3 "about")) .nil [("box", 4)]) .nil))) .nil))))))
def g_Putter_lay : Gx := mkG tb [] [] [] 100000
def f_Putter_lay : Fn := runDef g_Putter_lay b_Putter_lay 2 5
@[simp] theorem fl_Putter_lay_Putter_begins : g_Putter_lay.fld "Putter" "begins" = true := rfl
@[simp] theorem fl_Putter_lay_Putter_found : g_Putter_lay.fld "Putter" "found" = true := rfl
@[simp] theorem fl_Putter_lay_Putter_rows : g_Putter_lay.fld "Putter" "rows" = true := rfl
@[simp] theorem fl_Putter_lay_Putter_saves : g_Putter_lay.fld "Putter" "saves" = true := rfl
def b_Putter___init__ : CSs := (.cons (.att (.var 0 "self") "rows" (.var 1 "rows")) (.cons (.att (.var 0 "self") "saves" (.dic true .nil)) (.cons (.loop (.tup [(3, "place"), (4, "box")]) (.seq (.var 2 "saves")) (.cons (.sub (.att (.var 0 "self") "saves") (.var 3 "place") (.bin .Add (.mth (.att (.var 0 "self") "saves") .get (.cons (.var 3 "place") (.cons (.lst false .nil) .nil))) (.lst false (.cons (.var 4 "box") .nil)))) .nil)) (.cons (.att (.var 0 "self") "found" (.lc true (.tup (.cons (.cst (.str "push")) (.cons (.var 4 "box") .nil))) (.nam 4 "box") (.seq (.mth (.att (.var 0 "self") "saves") .get (.cons (.neg (.cst (.int 1))) (.cons (.lst false .nil) .nil)))) .nil [("box", 4)])) (.cons (.att (.var 0 "self") "begins" (.lst true .nil)) (.cons (.loop (.nam 5 "row") (.rng1 (.blt .len (.cons (.var 1 "rows") .nil))) (.cons (.exp (.mth (.att (.var 0 "self") "begins") .app (.cons (.blt .len (.cons (.att (.var 0 "self") "found") .nil)) .nil))) (.cons (.exp (.own (.var 0 "self") "Putter" "lay" (.cons (.var 5 "row") .nil))) .nil))) .nil))))))
def g_Putter___init__ : Gx := mkG tb [] [] [(("Putter", "lay"), f_Putter_lay)] 100000
def f_Putter___init__ : Fn := runDef g_Putter___init__ b_Putter___init__ 3 6
@[simp] theorem me_Putter___init___Putter_lay {o : CE} {es : CEs} {e : EnvD} {m : Mem} {Q : D → Mem → Prop} : OkE g_Putter___init__ (.own o "Putter" "lay" es) e m Q ↔ OkE g_Putter___init__ o e m fun x m => ∃ p fs, x = .ptr p ∧ m[p]? = some (.ins "Putter" fs) ∧ lookS fs "lay" = none ∧ OkL g_Putter___init__ es e m fun vs m => Ok (f_Putter_lay (.ptr p :: vs) m) Q := w_own rfl
@[simp] theorem fl_Putter___init___Putter_begins : g_Putter___init__.fld "Putter" "begins" = true := rfl
@[simp] theorem fl_Putter___init___Putter_found : g_Putter___init__.fld "Putter" "found" = true := rfl
@[simp] theorem fl_Putter___init___Putter_rows : g_Putter___init__.fld "Putter" "rows" = true := rfl
@[simp] theorem fl_Putter___init___Putter_saves : g_Putter___init__.fld "Putter" "saves" = true := rfl
def b_Putter_turned : CSs := (.cons (.asg (.nam 1 "found") (.lst true .nil)) (.cons (.loop (.nam 2 "row") (.seq (.att (.var 0 "self") "found")) (.cons (.ite (.cmp .In (.idx (.var 2 "row") (.cst (.int 0))) (.tup (.cons (.cst (.str "zero")) (.cons (.cst (.str "go")) .nil)))) (.cons (.asg (.nam 2 "row") (.bin .Add (.sli (.var 2 "row") .no (.yes (.neg (.cst (.int 1))))) (.tup (.cons (.idx (.att (.var 0 "self") "begins") (.idx (.var 2 "row") (.neg (.cst (.int 1))))) .nil)))) .nil) .nil) (.cons (.exp (.mth (.var 1 "found") .app (.cons (.var 2 "row") .nil))) .nil))) (.cons (.ret (.blt .tup (.cons (.var 1 "found") .nil))) .nil)))
def g_Putter_turned : Gx := mkG tb [] [] [] 100000
def f_Putter_turned : Fn := runDef g_Putter_turned b_Putter_turned 1 3
@[simp] theorem fl_Putter_turned_Putter_begins : g_Putter_turned.fld "Putter" "begins" = true := rfl
@[simp] theorem fl_Putter_turned_Putter_found : g_Putter_turned.fld "Putter" "found" = true := rfl
@[simp] theorem fl_Putter_turned_Putter_rows : g_Putter_turned.fld "Putter" "rows" = true := rfl
@[simp] theorem fl_Putter_turned_Putter_saves : g_Putter_turned.fld "Putter" "saves" = true := rfl
def b_with_saves : CSs := (.cons (.asg (.tup [(3, "houses"), (4, "routines")]) (.var 0 "program")) (.cons (.asg (.tup [(5, "house"), (6, "rows")]) (.idx (.var 4 "routines") (.var 1 "routine"))) (.cons (.asg (.nam 7 "other") (.tup (.cons (.var 5 "house") (.cons (.own (.call "Putter" (.cons (.var 6 "rows") (.cons (.var 2 "saves") .nil))) "Putter" "turned" .nil) .nil)))) (.cons (.ret (.tup (.cons (.var 3 "houses") (.cons (.bin .Add (.bin .Add (.sli (.var 4 "routines") .no (.yes (.var 1 "routine"))) (.tup (.cons (.var 7 "other") .nil))) (.sli (.var 4 "routines") (.yes (.bin .Add (.var 1 "routine") (.cst (.int 1)))) .no)) .nil)))) .nil))))
def g_with_saves : Gx := mkG tb [] [("Putter", f_Putter___init__)] [(("Putter", "turned"), f_Putter_turned)] 100000
def f_with_saves : Fn := runDef g_with_saves b_with_saves 3 8
@[simp] theorem mk_with_saves_Putter {es : CEs} {e : EnvD} {m : Mem} {Q : D → Mem → Prop} : OkE g_with_saves (.call "Putter" es) e m Q ↔ OkL g_with_saves es e m fun vs m => Ok (f_Putter___init__ (.ptr m.length :: vs) (m ++ [.ins "Putter" []])) fun d m' => d = .non ∧ Q (.ptr m.length) m' := w_make rfl
@[simp] theorem me_with_saves_Putter_turned {o : CE} {es : CEs} {e : EnvD} {m : Mem} {Q : D → Mem → Prop} : OkE g_with_saves (.own o "Putter" "turned" es) e m Q ↔ OkE g_with_saves o e m fun x m => ∃ p fs, x = .ptr p ∧ m[p]? = some (.ins "Putter" fs) ∧ lookS fs "turned" = none ∧ OkL g_with_saves es e m fun vs m => Ok (f_Putter_turned (.ptr p :: vs) m) Q := w_own rfl
@[simp] theorem fl_with_saves_Putter_begins : g_with_saves.fld "Putter" "begins" = true := rfl
@[simp] theorem fl_with_saves_Putter_found : g_with_saves.fld "Putter" "found" = true := rfl
@[simp] theorem fl_with_saves_Putter_rows : g_with_saves.fld "Putter" "rows" = true := rfl
@[simp] theorem fl_with_saves_Putter_saves : g_with_saves.fld "Putter" "saves" = true := rfl
def b_put_in : CSs := (.cons (.exp (.call "need_both" (.cons (.var 0 "program") (.cons (.var 1 "routine") .nil)))) (.cons (.exp (.call "need_saves" (.cons (.var 0 "program") (.cons (.var 1 "routine") (.cons (.var 2 "saves") .nil))))) (.cons (.asg (.nam 3 "found") (.call "with_saves" (.cons (.var 0 "program") (.cons (.var 1 "routine") (.cons (.var 2 "saves") .nil))))) (.cons (.ite (.cmp .Gt (.blt .len (.cons (.idx (.idx (.idx (.var 3 "found") (.cst (.int 1))) (.var 1 "routine")) (.cst (.int 1))) .nil)) (.glb "MOST_ROWS")) (.cons (.rse "BadSaves" .nil) .nil) .nil) (.cons (.ret (.var 3 "found")) .nil)))))
def g_put_in : Gx := mkG tb [("need_both", f_need_both), ("need_saves", f_need_saves), ("with_saves", f_with_saves)] [] [] 100000
def f_put_in : Fn := runDef g_put_in b_put_in 3 4
@[simp] theorem cl_put_in_need_both {es : CEs} {e : EnvD} {m : Mem} {Q : D → Mem → Prop} : OkE g_put_in (.call "need_both" es) e m Q ↔ OkL g_put_in es e m fun vs m => Ok (f_need_both vs m) Q := w_call rfl rfl
@[simp] theorem cl_put_in_need_saves {es : CEs} {e : EnvD} {m : Mem} {Q : D → Mem → Prop} : OkE g_put_in (.call "need_saves" es) e m Q ↔ OkL g_put_in es e m fun vs m => Ok (f_need_saves vs m) Q := w_call rfl rfl
@[simp] theorem cl_put_in_with_saves {es : CEs} {e : EnvD} {m : Mem} {Q : D → Mem → Prop} : OkE g_put_in (.call "with_saves" es) e m Q ↔ OkL g_put_in es e m fun vs m => Ok (f_with_saves vs m) Q := w_call rfl rfl
@[simp] theorem co_put_in_MOST_ROWS : g_put_in.con "MOST_ROWS" = some (.int 32) := rfl
def b_law : CSs := (.cons (.asg (.nam 1 "_law_h") (.call "_law_mix" (.cons (.var 0 "_law_script") (.cons (.cst (.int 37)) .nil)))) (.cons (.loop (.nam 2 "_law_turn") (.rng1 (.cst (.int 6))) (.cons (.asg (.nam 3 "_law_program_here") (.call "_law_any" (.cons (.var 1 "_law_h") .nil))) (.cons (.asg (.nam 4 "_law_number_here") (.call "_law_next" (.cons (.var 1 "_law_h") (.cons (.blt .len (.cons (.idx (.var 3 "_law_program_here") (.cst (.int 1))) .nil)) .nil)))) (.cons (.asg (.nam 5 "_law_saves_here") (.call "_law_saves" (.cons (.var 1 "_law_h") (.cons (.var 3 "_law_program_here") (.cons (.var 4 "_law_number_here") (.cons (.cst (.int 6)) .nil)))))) (.cons (.asg (.nam 6 "_law_due") (.call "_law_put_in" (.cons (.var 3 "_law_program_here") (.cons (.var 4 "_law_number_here") (.cons (.var 5 "_law_saves_here") .nil))))) (.cons (.asg (.nam 7 "_law_handed") (.lof false (.var 5 "_law_saves_here"))) (.cons (.ite (.cmp .Gt (.blt .len (.cons (.idx (.idx (.idx (.var 6 "_law_due") (.cst (.int 1))) (.var 4 "_law_number_here")) (.cst (.int 1))) .nil)) (.cst (.int 32))) (.cons (.ite (.cmp .NotEq (.kin (.call "put_in" (.cons (.var 3 "_law_program_here") (.cons (.var 4 "_law_number_here") (.cons (.var 7 "_law_handed") .nil))))) (.cst (.str "BadSaves"))) (.cons (.ret (.cst (.bl false))) .nil) .nil) .nil) (.cons (.ite (.bop .Or (.cons (.nott (.call "_law_alike" (.cons (.call "put_in" (.cons (.var 3 "_law_program_here") (.cons (.var 4 "_law_number_here") (.cons (.var 7 "_law_handed") .nil)))) (.cons (.var 6 "_law_due") .nil)))) (.cons (.cmp .NotEq (.var 7 "_law_handed") (.var 5 "_law_saves_here")) .nil))) (.cons (.ret (.cst (.bl false))) .nil) .nil) .nil)) (.cons (.asg (.nam 8 "_law_rows") (.idx (.idx (.idx (.var 3 "_law_program_here") (.cst (.int 1))) (.var 4 "_law_number_here")) (.cst (.int 1)))) (.cons (.asg (.nam 9 "_law_plain") (.lc false (.var 10 "_law_row") (.nam 10 "_law_row") (.rng1 (.blt .len (.cons (.var 8 "_law_rows") .nil))) (.cons (.cmp .NotEq (.idx (.idx (.var 8 "_law_rows") (.var 10 "_law_row")) (.cst (.int 0))) (.cst (.str "call"))) .nil) [("_law_row", 10)])) (.cons (.asg (.nam 11 "_law_far") (.call "_law_next" (.cons (.var 1 "_law_h") (.cons (.cst (.int 99)) .nil)))) (.cons (.asg (.nam 12 "_law_out") (.idx (.idx (.idx (.var 3 "_law_program_here") (.cst (.int 0))) (.idx (.idx (.idx (.var 3 "_law_program_here") (.cst (.int 1))) (.var 4 "_law_number_here")) (.cst (.int 0)))) (.cst (.int 1)))) (.cons (.asg (.nam 13 "_law_odd_here") (.lst true (.cons (.tup (.cons (.idx (.var 9 "_law_plain") (.call "_law_next" (.cons (.var 1 "_law_h") (.cons (.blt .len (.cons (.var 9 "_law_plain") .nil)) .nil)))) (.cons (.cst (.int 0)) .nil))) (.cons (.tup (.cons (.bin .Add (.blt .len (.cons (.var 8 "_law_rows") .nil)) (.var 11 "_law_far")) (.cons (.cst (.int 0)) .nil))) (.cons (.tup (.cons (.bin .Sub (.neg (.cst (.int 2))) (.var 11 "_law_far")) (.cons (.cst (.int 0)) .nil))) (.cons (.tup (.cons (.neg (.cst (.int 1))) (.cons (.bin .Add (.cst (.int 6)) (.var 11 "_law_far")) .nil))) (.cons (.tup (.cons (.neg (.cst (.int 1))) (.cons (.neg (.cst (.int 1))) .nil))) .nil))))))) (.cons (.asg (.nam 13 "_law_odd_here") (.x2 .addM (.var 13 "_law_odd_here") (.lst false (.cons (.tup (.cons (.neg (.cst (.int 1))) .nil)) (.cons (.tup .nil) (.cons (.tup (.cons (.neg (.cst (.int 1))) (.cons (.var 12 "_law_out") .nil))) .nil)))))) (.cons (.exp (.mth (.var 13 "_law_odd_here") .ext (.cons (.lc false (.tup (.cons (.var 14 "_law_k") (.cons (.idx (.idx (.idx (.var 3 "_law_program_here") (.cst (.int 0))) (.idx (.idx (.idx (.var 3 "_law_program_here") (.cst (.int 1))) (.idx (.idx (.var 8 "_law_rows") (.var 14 "_law_k")) (.cst (.int 1)))) (.cst (.int 0)))) (.cst (.int 1))) .nil))) (.nam 14 "_law_k") (.rng1 (.blt .len (.cons (.var 8 "_law_rows") .nil))) (.cons (.cmp .Eq (.idx (.idx (.var 8 "_law_rows") (.var 14 "_law_k")) (.cst (.int 0))) (.cst (.str "call"))) .nil) [("_law_k", 14)]) .nil))) (.cons (.asg (.nam 15 "_law_bad") (.bin .Add (.var 5 "_law_saves_here") (.lst false (.cons (.idx (.var 13 "_law_odd_here") (.call "_law_next" (.cons (.var 1 "_law_h") (.cons (.blt .len (.cons (.var 13 "_law_odd_here") .nil)) .nil)))) .nil)))) (.cons (.asg (.nam 16 "_law_two") (.bin .Mult (.lst false (.cons (.tup (.cons (.neg (.cst (.int 1))) (.cons (.bin .Mod (.bin .Add (.bin .Add (.var 12 "_law_out") (.cst (.int 1))) (.bin .Mod (.var 11 "_law_far") (.cst (.int 5)))) (.cst (.int 6))) .nil))) .nil)) (.cst (.int 2)))) (.cons (.asg (.nam 17 "_law_worse") (.idx (.lst false (.cons (.var 15 "_law_bad") (.cons (.var 15 "_law_bad") (.cons (.var 16 "_law_two") (.cons (.rev (.x1 .sor (.lst false (.cons (.tup (.cons (.neg (.cst (.int 1))) (.cons (.bin .Mod (.bin .Add (.var 12 "_law_out") (.cst (.int 1))) (.cst (.int 6))) .nil))) (.cons (.tup (.cons (.neg (.cst (.int 1))) (.cons (.bin .Mod (.bin .Add (.var 12 "_law_out") (.cst (.int 2))) (.cst (.int 6))) .nil))) .nil))))) .nil))))) (.call "_law_next" (.cons (.var 1 "_law_h") (.cons (.cst (.int 4)) .nil))))) (.cons (.ite (.cmp .NotEq (.kin (.call "put_in" (.cons (.var 3 "_law_program_here") (.cons (.var 4 "_law_number_here") (.cons (.var 17 "_law_worse") .nil))))) (.cst (.str "BadSaves"))) (.cons (.ret (.cst (.bl false))) .nil) .nil) .nil)))))))))))))))))) (.cons (.ret (.cst (.bl true))) .nil)))
def g_law : Gx := mkG tb [("_law_alike", f__law_alike), ("_law_any", f__law_any), ("_law_mix", f__law_mix), ("_law_next", f__law_next), ("_law_put_in", f__law_put_in), ("_law_saves", f__law_saves), ("put_in", f_put_in)] [] [] 100000 true
def f_law : Fn := runDef g_law b_law 1 18
@[simp] theorem cl_law__law_alike {es : CEs} {e : EnvD} {m : Mem} {Q : D → Mem → Prop} : OkE g_law (.call "_law_alike" es) e m Q ↔ OkL g_law es e m fun vs m => Ok (f__law_alike vs m) Q := w_call rfl rfl
@[simp] theorem cl_law__law_any {es : CEs} {e : EnvD} {m : Mem} {Q : D → Mem → Prop} : OkE g_law (.call "_law_any" es) e m Q ↔ OkL g_law es e m fun vs m => Ok (f__law_any vs m) Q := w_call rfl rfl
@[simp] theorem cl_law__law_mix {es : CEs} {e : EnvD} {m : Mem} {Q : D → Mem → Prop} : OkE g_law (.call "_law_mix" es) e m Q ↔ OkL g_law es e m fun vs m => Ok (f__law_mix vs m) Q := w_call rfl rfl
@[simp] theorem cl_law__law_next {es : CEs} {e : EnvD} {m : Mem} {Q : D → Mem → Prop} : OkE g_law (.call "_law_next" es) e m Q ↔ OkL g_law es e m fun vs m => Ok (f__law_next vs m) Q := w_call rfl rfl
@[simp] theorem cl_law__law_put_in {es : CEs} {e : EnvD} {m : Mem} {Q : D → Mem → Prop} : OkE g_law (.call "_law_put_in" es) e m Q ↔ OkL g_law es e m fun vs m => Ok (f__law_put_in vs m) Q := w_call rfl rfl
@[simp] theorem cl_law__law_saves {es : CEs} {e : EnvD} {m : Mem} {Q : D → Mem → Prop} : OkE g_law (.call "_law_saves" es) e m Q ↔ OkL g_law es e m fun vs m => Ok (f__law_saves vs m) Q := w_call rfl rfl
@[simp] theorem cl_law_put_in {es : CEs} {e : EnvD} {m : Mem} {Q : D → Mem → Prop} : OkE g_law (.call "put_in" es) e m Q ↔ OkL g_law es e m fun vs m => Ok (f_put_in vs m) Q := w_call rfl rfl
end Mi

set_option Elab.async false
set_option linter.all false
set_option maxRecDepth 100000
set_option maxHeartbeats 4000000
namespace Mi
open PySem L2 TL
/-! ### the drawer: its cells stand at 0, it at 1 -/
structure Hs where
  cells : List Int
  x : Int
  at_ : Int
def hm (S : Hs) (r : Mem) : Mem := .lst (S.cells.map .int) :: .lst [.int S.x, .ptr 0, .int S.at_] :: r
theorem hm_len (S : Hs) (r : Mem) : (hm S r).length = r.length + 2 := rfl
theorem hm0 (S : Hs) (r : Mem) : (hm S r)[0]? = some (.lst (S.cells.map .int)) := rfl
theorem hm1 (S : Hs) (r : Mem) : (hm S r)[1]? = some (.lst [.int S.x, .ptr 0, .int S.at_]) := rfl
theorem next_ok (S : Hs) (many : Int) (r : Mem) (h0 : 0 < many) (h1 : many < 1073741824) : Ok (f__law_next [.ptr 1, .int many] (hm S r)) fun d m => ∃ i S', d = .int i ∧ 0 ≤ i ∧ i < many ∧ m = hm S' r := by
  have hl : (hm S r).length = r.length + 2 := rfl
  refine def_go rfl ?_
  refine s_cons (s_set ?_)
  simp [hm1, hm0, idxD, getL, atI, ixN, lenD, bltD]
  refine ⟨by split <;> omega, ?_⟩
  generalize ha : S.at_ % (if 1 < (S.cells.length : Int) then (S.cells.length : Int) else 1) = a
  have ha0 : 0 ≤ a := by rw [← ha]; exact Int.emod_nonneg _ (by split <;> omega)
  have ha1 : a < (if 1 < (S.cells.length : Int) then (S.cells.length : Int) else 1) := by rw [← ha]; exact Int.emod_lt_of_pos _ (by split <;> omega)
  have e0 : eqM (hm S r) (.ptr 0) (.lst []) = some S.cells.isEmpty := by
    rw [eq_nil (xs := S.cells.map .int) rfl]
    cases S.cells <;> rfl
  refine s_cons (s_set (e_mono (Q := fun d m' => ∃ c : Int, d = .int c ∧ (0 < c → a < S.cells.length) ∧ m' = hm S r) ?_ ?_))
  · by_cases hc : S.cells = []
    · simp [hm1, hm0, idxD, getL, lenD, bltD, newL, e0, hc]
    · have hac : a < S.cells.length := by
        have : S.cells.length ≠ 0 := fun z => hc (List.length_eq_zero_iff.mp z)
        split at ha1 <;> omega
      obtain ⟨j, hj, _⟩ := atI_map (l := S.cells) (f := D.int) ha0 hac
      simp [hm1, hm0, idxD, getL, lenD, bltD, newL, e0, hc, hj, hac]
  rintro _ _ ⟨c, rfl, hc1, rfl⟩
  refine s_cons (s_ite ?_)
  by_cases h18 : (1000000000000000000 : Int) ≤ c
  · have hac : a < S.cells.length := hc1 (by omega)
    simp [b_pow, h18]
    refine s_cons (s_sub ?_)
    simp [hm1, hm0, idxD, getL, setItemD, ixN_in ha0 hac, h0, h1]
    refine s_last (s_ret ?_)
    simp [h0]
    rw [settle_at (by simp [hm])]
    exact ⟨_, rfl, Int.emod_nonneg _ (by omega), Int.emod_lt_of_pos _ h0, ⟨S.cells.set a.toNat (c / many), S.x, S.at_⟩, by simp [hm]⟩
  · simp [b_pow, h18]
    refine s_next ?_
    refine s_cons (s_sub ?_)
    simp [hm1, hm0, idxD, getL, setItemD, mulOk, ixN]
    refine s_cons (s_sub ?_)
    simp [hm, idxD, getL, setItemD, mulOk, ixN]
    refine s_last (s_ret ?_)
    simp [idxD, getL, h0]
    rw [settle_at (by simp)]
    exact ⟨_, rfl, Int.emod_nonneg _ (by omega), Int.emod_lt_of_pos _ h0, ⟨S.cells, (S.x * 48271 + c * 69621 + 11) % 2147483647, S.at_ + 1⟩, rfl⟩
end Mi

set_option Elab.async false
set_option linter.all false
set_option maxRecDepth 100000
set_option maxHeartbeats 4000000
namespace Mi
open PySem L2 TL
/-! ### programs as data -/
def boxesD (l : List Int) : D := .tup (l.map .int)
def rowD (r : Str × List Int) : D := .tup (.str r.1 :: r.2.map .int)
def houseD (h : List Int × Int × List Int) : D := .tup [boxesD h.1, .int h.2.1, boxesD h.2.2]
def routD (r : Int × List (Str × List Int)) : D := .tup [.int r.1, .tup (r.2.map rowD)]
def progD (p : List (List Int × Int × List Int) × List (Int × List (Str × List Int))) : D := .tup [.tup (p.1.map houseD), .tup (p.2.map routD)]
def Boxes (l : List Int) : Prop := l.Pairwise (· < ·) ∧ ∀ x ∈ l, 0 ≤ x ∧ x < 6
def HouseOk (h : List Int × Int × List Int) : Prop := Boxes h.1 ∧ Boxes h.2.2 ∧ (0 ≤ h.2.1 ∧ h.2.1 < 6) ∧ h.2.1 ∉ h.2.2 ∧ ∀ x ∈ h.1, x ∉ h.2.2
inductive So where
  | b | n | r | u
def So.most (nr nu : Int) : So → Int
  | .b => 6
  | .n => 1000
  | .r => nr
  | .u => nu
def So.str : So → Str
  | .b => "b"
  | .n => "n"
  | .r => "r"
  | .u => "u"
def forms : List (Str × List So) := [("put", [.b, .n]), ("move", [.b, .b]), ("add", [.b, .b, .b]), ("take", [.b, .b, .b]), ("push", [.b]), ("pop", [.b]), ("say", [.b]), ("zero", [.b, .r]), ("go", [.r]), ("call", [.u]), ("back", [])]
inductive All2 {α β : Type} (R : α → β → Prop) : List α → List β → Prop
  | nil : All2 R [] []
  | cons {a : α} {b : β} {l : List α} {k : List β} : R a b → All2 R l k → All2 R (a :: l) (b :: k)
theorem All2.len {α β : Type} {R : α → β → Prop} : ∀ {l : List α} {k : List β}, All2 R l k → l.length = k.length
  | _, _, .nil => rfl
  | _, _, .cons _ h => by rw [List.length_cons, List.length_cons, h.len]
def RowOk (nr nu : Int) (r : Str × List Int) : Prop := ∃ f, (r.1, f) ∈ forms ∧ All2 (fun p (s : So) => 0 ≤ p ∧ p < s.most nr nu) r.2 f
def RoutOk (nh nu : Int) (r : Int × List (Str × List Int)) : Prop := (0 ≤ r.1 ∧ r.1 < nh) ∧ (1 ≤ r.2.length ∧ r.2.length ≤ 32) ∧ (∀ x ∈ r.2, RowOk r.2.length nu x) ∧ ∃ x, r.2.getLast? = some x ∧ (x.1 = "go" ∨ x.1 = "back")
def ProgOk (p : List (List Int × Int × List Int) × List (Int × List (Str × List Int))) : Prop := (1 ≤ p.1.length ∧ p.1.length ≤ 3) ∧ (∀ h ∈ p.1, HouseOk h) ∧ (1 ≤ p.2.length ∧ p.2.length ≤ 6) ∧ ∀ r ∈ p.2, RoutOk p.1.length p.2.length r
theorem ok_same {α : Type} {r : Res α} {d : α} {m : Mem} (h : Ok r fun d' m' => d' = d ∧ m' = m) : r = .ok d m := by
  obtain ⟨a, m', e, rfl, rfl⟩ := h.of
  exact e
theorem is_number_eq (x lo hi : Int) (m : Mem) : f_is_number [.int x, .int lo, .int hi] m = .ok (.bl (decide (lo ≤ x ∧ x ≤ hi))) m := by
  apply ok_same
  refine def_go rfl ?_
  refine s_last (s_ret ?_)
  by_cases h1 : lo ≤ x <;> by_cases h2 : x ≤ hi <;> simp [isiD, tyD, isaD, h1, h2, settle_at] <;> omega
theorem are_boxes_eq {l : List Int} (h : Boxes l) (hl : l.length ≤ 60) (m : Mem) : f_are_boxes [boxesD l] m = .ok (.bl true) m := by
  apply ok_same
  refine def_go rfl ?_
  refine s_cons (s_ite ?_)
  simp [isiD, tyD, isaD, boxesD, itSeq]
  refine lc_none (fun d hd => ?_) ?_
  · obtain ⟨x, hx, rfl⟩ := List.mem_map.mp hd
    refine ok_same (lc_body rfl ?_)
    have := h.2 x hx
    simp [wipeE, is_number_eq]
    exact ⟨this.1, by omega⟩
  simp [newL]
  refine s_next ?_
  refine s_last (s_ret ?_)
  have hi : intsD (l.map .int) = some l := by
    induction l with
    | nil => rfl
    | cons i l ih => simp [intsD, ih ⟨(List.pairwise_cons.mp h.1).2, fun x hx => h.2 x (List.mem_cons_of_mem _ hx)⟩ (by simp at hl; omega)]
  have hs : sortSet l = l := sorted_eq (sortSet_sorted l) h.1 (sortSet_mem l)
  have e2 : eqM m (.lst (l.map .int)) (.lst (l.map .int)) = some true := by
    rw [eq_ints (l := l) (k := l) rfl rfl]; simp
  simp [newL, lofD, srsD, hi, hl, hs, e2, settle_at]
theorem boxes_len : ∀ {l : List Int}, Boxes l → l.length ≤ 6 := by
  intro l h
  have key : ∀ (l : List Int) (lo : Int), l.Pairwise (· < ·) → (∀ x ∈ l, lo ≤ x ∧ x < 6) → lo ≤ 6 → (l.length : Int) ≤ 6 - lo := by
    intro l
    induction l with
    | nil => intro lo _ _ h; simp; omega
    | cons a r ih =>
      intro lo hp hb hl
      obtain ⟨p1, p2⟩ := List.pairwise_cons.mp hp
      have ha := hb a List.mem_cons_self
      have := ih (a + 1) p2 (fun x hx => ⟨by have := p1 x hx; omega, (hb x (List.mem_cons_of_mem _ hx)).2⟩) (by omega)
      simp
      omega
  have := key l 0 h.1 h.2 (by omega)
  omega
theorem is_house_eq {h : List Int × Int × List Int} (hh : HouseOk h) (m : Mem) : f_is_house [houseD h] m = .ok (.bl true) m := by
  obtain ⟨ins, out, kept⟩ := h
  obtain ⟨h1, h2, h3, h4, h5⟩ := hh
  simp only at h1 h2 h3 h4 h5
  have e1 := are_boxes_eq h1 (by have := boxes_len h1; omega)
  have e2 := are_boxes_eq h2 (by have := boxes_len h2; omega)
  unfold boxesD at e1 e2
  apply ok_same
  refine def_go rfl ?_
  refine s_cons (s_ite ?_)
  simp [isiD, tyD, isaD, houseD, boxesD, lenD]
  refine s_next ?_
  refine s_cons (s_asg ?_)
  simp [bindT, bindAll]
  refine s_cons (s_ite ?_)
  have ho : out ≤ 5 := by omega
  simp [e1, e2, is_number_eq, h3, ho]
  refine s_next ?_
  refine s_last (s_ret ?_)
  simp [in_ints, h4, itSeq]
  refine lc_none (fun d hd => ?_) ?_
  · obtain ⟨x, hx, rfl⟩ := List.mem_map.mp hd
    refine ok_same (lc_body rfl ?_)
    simp [wipeE, in_ints, h5 x hx]
  simp [newL, settle_at]
theorem signs_nil : signsD "" = [] := rfl
theorem zip_all2 {R : Int → So → Prop} : ∀ {ps : List Int} {ss : List So}, All2 R ps ss → ∀ d ∈ zipD (ps.map .int) (ss.map fun s => .str s.str), ∃ p s, R p s ∧ d = .tup [.int p, .str s.str]
  | _, _, .nil, d, hd => by simp [zipD] at hd
  | _, _, .cons h r, d, hd => by
    rw [List.map_cons, List.map_cons, zipD] at hd
    rcases List.mem_cons.mp hd with e | e
    · exact ⟨_, _, h, e⟩
    · exact zip_all2 r d e
theorem form_of {w : Str} {f : List So} (h : (w, f) ∈ forms) : ∃ z : Str, (dvs t_FORMS).lookup w = some (.str z) ∧ z.length = f.length ∧ signsD z = f.map fun s => .str s.str := by
  simp only [forms, List.mem_cons, Prod.mk.injEq, List.not_mem_nil, or_false] at h
  rcases h with ⟨rfl, rfl⟩ | ⟨rfl, rfl⟩ | ⟨rfl, rfl⟩ | ⟨rfl, rfl⟩ | ⟨rfl, rfl⟩ | ⟨rfl, rfl⟩ | ⟨rfl, rfl⟩ | ⟨rfl, rfl⟩ | ⟨rfl, rfl⟩ | ⟨rfl, rfl⟩ | ⟨rfl, rfl⟩
  · exact ⟨"bn", rfl, rfl, rfl⟩
  · exact ⟨"bb", rfl, rfl, rfl⟩
  · exact ⟨"bbb", rfl, rfl, rfl⟩
  · exact ⟨"bbb", rfl, rfl, rfl⟩
  · exact ⟨"b", rfl, rfl, rfl⟩
  · exact ⟨"b", rfl, rfl, rfl⟩
  · exact ⟨"b", rfl, rfl, rfl⟩
  · exact ⟨"br", rfl, rfl, rfl⟩
  · exact ⟨"r", rfl, rfl, rfl⟩
  · exact ⟨"u", rfl, rfl, rfl⟩
  · exact ⟨"", rfl, rfl, rfl⟩
theorem form_len {w : Str} {f : List So} (h : (w, f) ∈ forms) : f.length ≤ 3 := by
  simp only [forms, List.mem_cons, Prod.mk.injEq, List.not_mem_nil, or_false] at h
  rcases h with ⟨rfl, rfl⟩ | ⟨rfl, rfl⟩ | ⟨rfl, rfl⟩ | ⟨rfl, rfl⟩ | ⟨rfl, rfl⟩ | ⟨rfl, rfl⟩ | ⟨rfl, rfl⟩ | ⟨rfl, rfl⟩ | ⟨rfl, rfl⟩ | ⟨rfl, rfl⟩ | ⟨rfl, rfl⟩ <;> decide
theorem most_look (nr nu : Int) (s : So) : lookK (putD (putD (putD (putD [] (.inr "b") (.int 6)) (.inr "n") (.int 1000)) (.inr "r") (.int nr)) (.inr "u") (.int nu)) (.inr s.str) = some (.int (s.most nr nu)) := by
  cases s <;> rfl
theorem is_row_eq {r : Str × List Int} {nr nu : Int} (h : RowOk nr nu r) (m : Mem) : f_is_row [rowD r, .int nr, .int nu] m = .ok (.bl true) m := by
  obtain ⟨w, ps⟩ := r
  obtain ⟨f, hf, hr⟩ := h
  simp only at hf hr
  obtain ⟨z, hz, hzl, hs⟩ := form_of hf
  have hpl : ps.length = f.length := hr.len
  have hfl := form_len hf
  apply ok_same
  refine def_go rfl ?_
  refine s_cons (s_ite ?_)
  simp [isiD, tyD, isaD, rowD, inD, hz]
  refine s_next ?_
  refine s_cons (s_set ?_)
  simp [newK, kD]
  refine s_cons (s_set ?_)
  simp [idxD, hz]
  refine s_cons (s_ite ?_)
  have hzz : ∀ m, lenD (.str z) m = some f.length := fun m => by
    unfold lenD
    simp only
    rw [if_pos (by rw [hzl]; simp; omega), hzl]
  simp [hpl, hzz]
  refine s_next ?_
  refine s_last (s_ret ?_)
  simp
  refine lc_none (fun d hd => ?_) ?_
  · obtain ⟨p, s, hps, rfl⟩ := zip_all2 hr d (by rw [← hs]; exact hd)
    refine ok_same (lc_body rfl ?_)
    simp [wipeE, is_number_eq, idxD, getL, getK, most_look]
    omega
  simp [settle_at]
theorem need_routine_eq {r : Int × List (Str × List Int)} {nh nu : Int} (h : RoutOk nh nu r) (k : Int) (m : Mem) : f_need_routine [.int k, routD r, .int nh, .int nu] m = .ok .non m := by
  obtain ⟨hi, rows⟩ := r
  obtain ⟨h1, h2, h3, x, hx, hw⟩ := h
  simp only at h1 h2 h3 hx hw
  have hlen : rows.length ≤ line := by simp; omega
  apply ok_same
  refine def_go rfl ?_
  refine s_cons (s_set ?_)
  have e1 : hi ≤ nh - 1 := by omega
  simp [routD, isaD, is_number_eq, h1, e1]
  refine s_cons (s_ite ?_)
  have e2 : (1 : Int) ≤ rows.length := by omega
  have e3 : (rows.length : Int) ≤ 32 := by omega
  have e4 : ¬ (32 : Int) < rows.length := by omega
  simp [isaD, e2, e3, e4]
  refine s_next ?_
  refine s_cons (s_set ?_)
  simp
  refine s_cons (s_for (fun ds e m' => m' = m ∧ (∀ d ∈ ds, ∃ k : Nat, d = .int k ∧ k < rows.length) ∧ ∃ z, e = [some (.int k), some (.tup [.int hi, .tup (rows.map rowD)]), some (.int nh), some (.int nu), some (.bl true), some (.tup (rows.map rowD)), z]) ?_ ?_ ?_)
  · simp
    refine ⟨_, rng_eq (by omega) (by omega) (by omega) (by omega), ?_⟩
    intro d hd
    simp at hd
    obtain ⟨k, hk, rfl⟩ := hd
    exact ⟨k, by simp, hk⟩
  · rintro d r e m' ⟨rfl, hd, z, rfl⟩
    obtain ⟨k, rfl, hk⟩ := hd d List.mem_cons_self
    refine ⟨_, rfl, ?_⟩
    refine s_last (s_ite ?_)
    have hr := is_row_eq (h3 _ (List.getElem_mem hk)) m'
    simp [atI_nat, hk, hr]
    refine s_nil ?_
    exact ⟨rfl, fun d hd' => hd d (List.mem_cons_of_mem _ hd'), _, rfl⟩
  · rintro e m' ⟨rfl, _, z, rfl⟩
    refine s_last (s_ite ?_)
    have hne : rows ≠ [] := fun z => by rw [z] at h2; simp at h2
    have hl : atI (rows.map rowD) (-1) = some (rowD x) := by
      rw [atI_last (by simpa using hne)]
      rw [List.getLast_map, List.getLast?_eq_some_getLast hne] at *
      simp at hx
      rw [hx]
    have hin : inD g_need_routine (.str x.1) (.tup [.str "go", .str "back"]) m' = some true := by
      rcases hw with e | e <;> rw [e]
      · exact in_strs (l := ["go", "back"]) (by decide +kernel) (by decide +kernel)
      · exact in_strs (l := ["go", "back"]) (by decide +kernel) (by decide +kernel)
    simp [hl, rowD, hin]
    refine s_nil ?_
    simp [settle_at]
theorem need_program_eq {p : List (List Int × Int × List Int) × List (Int × List (Str × List Int))} (h : ProgOk p) (m : Mem) : f_need_program [progD p] m = .ok .non m := by
  obtain ⟨hs, rs⟩ := p
  obtain ⟨h1, h2, h3, h4⟩ := h
  simp only at h1 h2 h3 h4
  have l1 : hs.length ≤ line := by simp; omega
  have l2 : rs.length ≤ line := by simp; omega
  apply ok_same
  refine def_go rfl ?_
  refine s_cons (s_ite ?_)
  simp [progD, isaD]
  refine s_next ?_
  refine s_cons (s_asg ?_)
  simp [bindT, bindAll]
  refine s_cons (s_ite ?_)
  have e2 : (1 : Int) ≤ hs.length := by omega
  have e3 : (hs.length : Int) ≤ 3 := by omega
  have e4 : ¬ (3 : Int) < hs.length := by omega
  simp [isaD, e2, e3, e4]
  refine s_next ?_
  refine s_cons (s_for (fun ds e m' => m' = m ∧ (∀ d ∈ ds, ∃ k : Nat, d = .int k ∧ k < hs.length) ∧ ∃ z, e = [some (progD (hs, rs)), some (.tup (hs.map houseD)), some (.tup (rs.map routD)), z]) ?_ ?_ ?_)
  · simp
    refine ⟨_, rng_eq (by omega) (by omega) (by omega) (by omega), ?_, rfl⟩
    intro d hd
    simp at hd
    obtain ⟨k, hk, rfl⟩ := hd
    exact ⟨k, by simp, hk⟩
  · rintro d r e m' ⟨rfl, hd, z, rfl⟩
    obtain ⟨k, rfl, hk⟩ := hd d List.mem_cons_self
    refine ⟨_, rfl, ?_⟩
    refine s_last (s_ite ?_)
    have hr := is_house_eq (h2 _ (List.getElem_mem hk)) m'
    simp [atI_nat, hk, hr]
    refine s_nil ?_
    exact ⟨rfl, fun d hd' => hd d (List.mem_cons_of_mem _ hd'), _, rfl⟩
  · rintro e m' ⟨rfl, _, z, rfl⟩
    refine s_cons (s_ite ?_)
    have e2 : (1 : Int) ≤ rs.length := by omega
    have e3 : (rs.length : Int) ≤ 6 := by omega
    have e4 : ¬ (6 : Int) < rs.length := by omega
    simp [isaD, e2, e3, e4]
    refine s_next ?_
    refine s_last (s_for (fun ds e m2 => m2 = m' ∧ (∀ d ∈ ds, ∃ k : Nat, d = .int k ∧ k < rs.length) ∧ ∃ z, e = [some (progD (hs, rs)), some (.tup (hs.map houseD)), some (.tup (rs.map routD)), z]) ?_ ?_ ?_)
    · simp
      refine ⟨_, rng_eq (by omega) (by omega) (by omega) (by omega), ?_⟩
      intro d hd
      simp at hd
      obtain ⟨k, hk, rfl⟩ := hd
      exact ⟨k, by simp, hk⟩
    · rintro d r e m' ⟨rfl, hd, z, rfl⟩
      obtain ⟨k, rfl, hk⟩ := hd d List.mem_cons_self
      refine ⟨_, rfl, ?_⟩
      refine s_last (s_exp ?_)
      have hr := need_routine_eq (h4 _ (List.getElem_mem hk)) k m'
      simp [atI_nat, hk, hr]
      exact fun d hd' => hd d (List.mem_cons_of_mem _ hd')
    · rintro e m' ⟨rfl, _, z, rfl⟩
      simp [settle_at]
end Mi

set_option Elab.async false
set_option linter.all false
set_option maxRecDepth 100000
set_option maxHeartbeats 4000000
namespace Mi
open PySem L2 TL
theorem undL_map {α : Type} {f : α → D} {n : Nat} : ∀ {l : List α}, (∀ a ∈ l, (f a).und n = true) → D.undL n (l.map f) = true
  | [], _ => rfl
  | a :: l, h => by
    rw [List.map_cons, D.undL, h a List.mem_cons_self, undL_map fun x hx => h x (List.mem_cons_of_mem _ hx)]
    rfl
theorem und_ints (n : Nat) (l : List Int) : D.undL n (l.map .int) = true := undL_map fun _ _ => by simp [D.und]
theorem und_prog (n : Nat) (p : List (List Int × Int × List Int) × List (Int × List (Str × List Int))) : (progD p).und n = true := by
  have h1 : D.undL n (p.1.map houseD) = true := undL_map fun h _ => by simp [houseD, boxesD, D.und, D.undL, und_ints]
  have h2 : D.undL n (p.2.map routD) = true := undL_map fun r _ => by
    have : D.undL n (r.2.map rowD) = true := undL_map fun x _ => by simp [rowD, D.und, D.undL, und_ints]
    simp [routD, D.und, D.undL, this]
  simp [progD, D.und, D.undL, h1, h2]
mutual
theorem und_up {n k : Nat} (hk : n ≤ k) : ∀ d : D, d.und n = true → d.und k = true
  | .non, _ => rfl
  | .bl _, _ => rfl
  | .int _, _ => rfl
  | .str _, _ => rfl
  | .tup xs, h => by simp only [D.und] at h ⊢; exact undL_up hk xs h
  | .lst xs, h => by simp only [D.und] at h ⊢; exact undL_up hk xs h
  | .dic xs, h => by simp only [D.und] at h ⊢; exact undK_up hk xs h
  | .ptr p, h => by simp only [D.und, decide_eq_true_eq] at h ⊢; omega
  | .inp _, _ => rfl
  | .gd _, _ => rfl
  | .exn, _ => rfl
theorem undL_up {n k : Nat} (hk : n ≤ k) : ∀ d : List D, D.undL n d = true → D.undL k d = true
  | [], _ => rfl
  | x :: xs, h => by
    simp only [D.undL, Bool.and_eq_true] at h ⊢
    exact ⟨und_up hk x h.1, undL_up hk xs h.2⟩
theorem undK_up {n k : Nat} (hk : n ≤ k) : ∀ d : List (Key × D), D.undK n d = true → D.undK k d = true
  | [], _ => rfl
  | (_, x) :: xs, h => by
    simp only [D.undK, Bool.and_eq_true] at h ⊢
    exact ⟨und_up hk x h.1, undK_up hk xs h.2⟩
end
theorem cell_up {n k : Nat} (hk : n ≤ k) {c : Cell} (h : c.und n = true) : c.und k = true := by
  cases c with
  | lst xs => exact undL_up hk _ h
  | dct xs => exact undK_up hk _ h
  | nst xs => exact undL_up hk _ h
  | ins C fs => exact undL_up hk _ h
theorem all_up {n k : Nat} (hk : n ≤ k) {r : Mem} (h : r.all (Cell.und n) = true) : r.all (Cell.und k) = true := List.all_eq_true.mpr fun c hc => cell_up hk (List.all_eq_true.mp h c hc)
end Mi

set_option Elab.async false
set_option linter.all false
set_option maxRecDepth 100000
set_option maxHeartbeats 4000000
namespace Mi
open PySem L2 TL
theorem mix_ok (ns : List Int) (sd : Int) : Ok (f__law_mix [.inp ns, .int sd] []) fun d m => d = .ptr 1 ∧ ∃ S, m = hm S [] := by
  refine def_go rfl ?_
  refine s_cons (s_set ?_)
  simp
  refine s_cons (s_for (fun ds e mm => mm = [] ∧ (∀ d ∈ ds, ∃ i, d = .int i) ∧ ∃ x y, e = [some (.inp ns), some (.int sd), some (.int x), y]) ?_ ?_ ?_)
  · simp
  · rintro d r e mm ⟨rfl, hd, x, y, rfl⟩
    obtain ⟨i, rfl⟩ := hd d List.mem_cons_self
    refine ⟨_, rfl, ?_⟩
    refine s_last (s_set ?_)
    simp [mulOk]
    exact fun d h => hd d (List.mem_cons_of_mem _ h)
  · rintro e mm ⟨rfl, _, x, y, rfl⟩
    refine s_last (s_ret ?_)
    simp
    rw [settle_keepD (by simp [D.und])]
    exact ⟨rfl, ⟨ns, x, 0⟩, rfl⟩
@[simp] theorem settle_hm {S S' : Hs} {r r' : Mem} {d : D} {Q : D → Mem → Prop} (h : r'.length = r.length) : Ok (settle (hm S r).length d (hm S' r')) Q ↔ Q d (hm S' r') := settle_at (by simp [hm, h])
/-- the drawer's next, within -/
theorem nx {S : Hs} {many : Int} {r : Mem} {Q : D → Mem → Prop} (h0 : 0 < many) (h1 : many < 1073741824) (q : ∀ i S', 0 ≤ i → i < many → Q (.int i) (hm S' r)) : Ok (f__law_next [.ptr 1, .int many] (hm S r)) Q :=
  Ok.mono (next_ok S many r h0 h1) fun d m ⟨i, S', e1, h0, h1, e2⟩ => by rw [e1, e2]; exact q i S' h0 h1
theorem number_ok (S : Hs) (r : Mem) : Ok (f__law_number [.ptr 1] (hm S r)) fun d m => ∃ i S', d = .int i ∧ 0 ≤ i ∧ i < 1000 ∧ m = hm S' r := by
  refine def_go rfl ?_
  refine s_last (s_ret ?_)
  simp
  refine nx (by omega) (by omega) fun a S1 a0 a1 => ?_
  refine nx (by omega) (by omega) fun b S2 b0 b1 => ?_
  refine nx (by omega) (by omega) fun c S3 c0 c1 => ?_
  have hc : c = 0 ∨ c = 1 := by omega
  rcases hc with rfl | rfl
  · simp
    exact ⟨a0, by omega, S3, rfl⟩
  · simp
    exact ⟨b0, by omega, S3, rfl⟩
theorem nb {S : Hs} {r : Mem} {Q : D → Mem → Prop} (q : ∀ i S', 0 ≤ i → i < 1000 → Q (.int i) (hm S' r)) : Ok (f__law_number [.ptr 1] (hm S r)) Q :=
  Ok.mono (number_ok S r) fun d m ⟨i, S', e1, h0, h1, e2⟩ => by rw [e1, e2]; exact q i S' h0 h1
theorem house_ok (S : Hs) (r : Mem) : Ok (f__law_house [.ptr 1] (hm S r)) fun d m => ∃ h S', d = houseD h ∧ HouseOk h ∧ m = hm S' r := by
  refine def_go rfl ?_
  refine s_cons (s_set ?_)
  simp
  refine nx (by omega) (by omega) fun a S1 a0 a1 => ?_
  obtain ⟨few, hf, hfm⟩ := atI_map (l := ([3, 3, 3, 2] : List Int)) (f := D.int) a0 (by simpa using a1)
  have hf3 : 0 < few ∧ few ≤ 3 := by simp at hfm; omega
  simp only [List.map_cons, List.map_nil] at hf
  simp [hf]
  refine s_cons (s_set ?_)
  simp
  refine ⟨_, rng6, ?_⟩
  refine lc_all (fun d => ∃ i : Int, d = .int i) (fun m => ∃ S', m = hm S' r) ⟨S1, rfl⟩ ?_ (by simp) ?_
  · rintro d hd m ⟨S2, rfl⟩
    refine lc_body rfl ?_
    simp [wipeE]
    refine nx hf3.1 (by omega) fun b S3 b0 b1 => ?_
    by_cases h3 : few = 3
    · simp [h3, mulOk]
      exact ⟨_, rfl⟩
    · simp [h3]
      refine nx (by omega) (by omega) fun c S4 c0 c1 => ?_
      by_cases hc : c = 0
      · simp [hc, mulOk]
        exact ⟨_, rfl⟩
      · simp [hc, mulOk]
        exact ⟨_, rfl⟩
  · rintro xs m ⟨S2, rfl⟩ hxl hxs
    obtain ⟨ss, rfl⟩ : ∃ ss : List Int, xs = ss.map D.int := by
      clear hxl
      induction xs with
      | nil => exact ⟨[], rfl⟩
      | cons x xs ih =>
        obtain ⟨ss, rfl⟩ := ih fun y hy => hxs y (List.mem_cons_of_mem _ hy)
        obtain ⟨i, rfl⟩ := hxs x List.mem_cons_self
        exact ⟨i :: ss, rfl⟩
    have hsl : ss.length = 6 := by simpa using hxl
    obtain ⟨sv, hat⟩ : ∃ sv : Int → Int, ∀ x ∈ ([0, 1, 2, 3, 4, 5] : List Int), atI (ss.map D.int) x = some (.int (sv x)) := by
      refine ⟨fun x => ss.getD x.toNat 0, fun x hx => ?_⟩
      have hx2 : 0 ≤ x ∧ x < 6 := by simp at hx; omega
      obtain ⟨d, e, g⟩ := atI_get (l := ss.map D.int) hx2.1 (by simp; omega)
      rw [e, ← g, List.getElem?_map]
      have : x.toNat < ss.length := by omega
      simp [List.getD, this]
    refine s_cons (s_set ?_)
    simp
    refine nx (by omega) (by omega) fun o S3 o0 o1 => ?_
    refine s_cons (s_set ?_)
    simp
    refine ⟨_, rng6, ?_⟩
    refine lc_filtF (p := fun x => decide (sv x = 0)) (fun x hx => ?_) (by simp) ?_
    · refine ok_same (lc_body rfl ?_)
      have hat := hat x hx
      by_cases hz : sv x = 0 <;> simp [wipeE, hat, hz]
    refine nx (by omega) (by omega) fun a2 S4 a20 a21 => ?_
    obtain ⟨mm, hm1, hm2⟩ := atI_map (l := ([3, 6] : List Int)) (f := D.int) a20 (by simpa using a21)
    have hmm : 0 < mm ∧ mm ≤ 6 := by simp at hm2; omega
    simp only [List.map_cons, List.map_nil] at hm1
    simp [hm1]
    refine nx hmm.1 (by omega) fun cut S5 cut0 cut1 => ?_
    simp
    rw [cut_toI _ (by omega), ← List.map_take]
    generalize hins : (List.filter (fun x => decide (sv x = 0)) [0, 1, 2, 3, 4, 5]).take (1 + cut).toNat = ins
    refine s_last (s_ret ?_)
    simp
    refine ⟨_, rng6, ?_⟩
    refine lc_filtF (p := fun x => decide (sv x = 1 ∧ x ≠ o)) (fun x hx => ?_) (by simp) ?_
    · refine ok_same (lc_body rfl ?_)
      have hat := hat x hx
      by_cases ho : x = o
      · subst ho
        by_cases hz : sv x = 1 <;> simp [wipeE, hat, hz]
      · by_cases hz : sv x = 1 <;> simp [wipeE, hat, hz, ho]
    generalize hks : List.filter (fun x => decide (sv x = 1 ∧ x ≠ o)) [0, 1, 2, 3, 4, 5] = ks
    simp
    have hB : ∀ p : Int → Bool, Boxes (List.filter p [0, 1, 2, 3, 4, 5]) := fun p => by
      refine ⟨List.Pairwise.filter _ (by decide), fun x hx => ?_⟩
      have := (List.mem_filter.mp hx).1
      simp at this
      omega
    have hI : Boxes ins := by
      rw [← hins]
      have := hB fun x => decide (sv x = 0)
      exact ⟨this.1.sublist (List.take_sublist _ _), fun x hx => this.2 x (List.mem_of_mem_take hx)⟩
    have hK : HouseOk (ins, o, ks) := by
      have hb := hB fun x => decide (sv x = 1 ∧ x ≠ o)
      rw [hks] at hb
      refine ⟨hI, hb, ⟨o0, o1⟩, ?_, ?_⟩
      · rw [← hks]
        simp
      · intro x hx hx2
        simp only at hx hx2
        rw [← hins] at hx
        rw [← hks] at hx2
        have h1 := (List.mem_filter.mp (List.mem_of_mem_take hx)).2
        have h2 := (List.mem_filter.mp hx2).2
        simp at h1 h2
        omega
    exact ⟨ins, o, ks, rfl, hK, S5, rfl⟩
end Mi

set_option Elab.async false
set_option linter.all false
set_option maxRecDepth 100000
set_option maxHeartbeats 4000000
namespace Mi
open PySem L2 TL
/-! ### the maker of rows: its rows, its dict, its boxes stand behind the others -/
structure Es where
  hs : List (List Int × Int × List Int)
  ow : List Int
  fr : List Int
def eD (n : Nat) (c : Es) : List (Key × D) := [(.inr "rows", .ptr n), (.inr "houses", .tup (c.hs.map houseD)), (.inr "owners", .lst (c.ow.map .int)), (.inr "boxes", .ptr (n + 2)), (.inr "free", .lst (c.fr.map .int))]
def em (S : Hs) (r : Mem) (c : Es) (rows : List (Str × List Int)) (boxes : List Str) : Mem :=
  hm S (r ++ [.lst (rows.map rowD), .dct (eD (r.length + 2) c), .lst (boxes.map .str)])
section
variable {S : Hs} {r : Mem} {c : Es} {rows : List (Str × List Int)} {boxes : List Str} {Q : D → Mem → Prop} {G : Gx}
theorem em_rows : (em S r c rows boxes)[r.length + 2]? = some (.lst (rows.map rowD)) := by simp [em, hm]
theorem em_dict : (em S r c rows boxes)[r.length + 3]? = some (.dct (eD (r.length + 2) c)) := by
  show (r ++ _)[r.length + 1]? = _
  rw [app_get]; rfl
theorem em_boxes : (em S r c rows boxes)[r.length + 4]? = some (.lst (boxes.map .str)) := by
  show (r ++ _)[r.length + 2]? = _
  rw [app_get]; rfl
theorem em_len : (em S r c rows boxes).length = r.length + 5 := by simp [em, hm]
theorem em_app {x : Str × List Int} : (em S r c rows boxes).set (r.length + 2) (.lst (rows.map rowD ++ [rowD x])) = em S r c (rows ++ [x]) boxes := by
  show _ :: _ :: (r ++ _).set r.length _ = _
  rw [app_set0]
  simp [em, hm]
theorem em_ext {x : List (Str × List Int)} : (em S r c rows boxes).set (r.length + 2) (.lst (rows.map rowD ++ x.map rowD)) = em S r c (rows ++ x) boxes := by
  show _ :: _ :: (r ++ _).set r.length _ = _
  rw [app_set0]
  simp [em, hm]
theorem em_put {k : Nat} {x : Str × List Int} : (em S r c rows boxes).set (r.length + 2) (.lst ((rows.map rowD).set k (rowD x))) = em S r c (rows.set k x) boxes := by
  show _ :: _ :: (r ++ _).set r.length _ = _
  rw [app_set0]
  simp [em, hm]
theorem em_box {k : Nat} {x : Str} : (em S r c rows boxes).set (r.length + 4) (.lst ((boxes.map .str).set k (.str x))) = em S r c rows (boxes.set k x) := by
  show _ :: _ :: (r ++ _).set (r.length + 2) _ = _
  rw [app_set]
  simp [em, hm]
theorem e_get {k : Key} {y d : D} (hk : kD y = some k) (h : lookK (eD (r.length + 2) c) k = some d) : Ok (idxD G (.ptr (r.length + 3)) y (em S r c rows boxes)) Q ↔ Q d (em S r c rows boxes) := by
  rw [i_dct (kvs := eD (r.length + 2) c) (by simp only [getK, em_dict]) hk, h]
  simp
@[simp] theorem e_rows : Ok (idxD G (.ptr (r.length + 3)) (.str "rows") (em S r c rows boxes)) Q ↔ Q (.ptr (r.length + 2)) (em S r c rows boxes) := e_get rfl rfl
@[simp] theorem e_houses : Ok (idxD G (.ptr (r.length + 3)) (.str "houses") (em S r c rows boxes)) Q ↔ Q (.tup (c.hs.map houseD)) (em S r c rows boxes) := e_get rfl rfl
@[simp] theorem e_owners : Ok (idxD G (.ptr (r.length + 3)) (.str "owners") (em S r c rows boxes)) Q ↔ Q (.lst (c.ow.map .int)) (em S r c rows boxes) := e_get rfl rfl
@[simp] theorem e_boxes : Ok (idxD G (.ptr (r.length + 3)) (.str "boxes") (em S r c rows boxes)) Q ↔ Q (.ptr (r.length + 4)) (em S r c rows boxes) := e_get rfl rfl
@[simp] theorem e_free : Ok (idxD G (.ptr (r.length + 3)) (.str "free") (em S r c rows boxes)) Q ↔ Q (.lst (c.fr.map .int)) (em S r c rows boxes) := e_get rfl rfl
@[simp] theorem g_rows : getL (em S r c rows boxes) (.ptr (r.length + 2)) = some (rows.map rowD) := by simp only [getL, em_rows]
@[simp] theorem g_boxes : getL (em S r c rows boxes) (.ptr (r.length + 4)) = some (boxes.map .str) := by simp only [getL, em_boxes]
@[simp] theorem i_boxes {i : Int} : Ok (idxD G (.ptr (r.length + 4)) (.int i) (em S r c rows boxes)) Q ↔ ∃ d, atI (boxes.map .str) i = some d ∧ Q d (em S r c rows boxes) := i_lst g_boxes
@[simp] theorem k_rows : kindOk .app (.ptr (r.length + 2)) (em S r c rows boxes) = true := k_app em_rows
@[simp] theorem k_rowsE : kindOk .ext (.ptr (r.length + 2)) (em S r c rows boxes) = true := k_ext em_rows
theorem m_rows {d : D} (x : Str × List Int) (e : d = rowD x) : Ok (mthD (.ptr (r.length + 2)) .app [d] (em S r c rows boxes)) Q ↔ rows.length < line ∧ Q .non (em S r c (rows ++ [x]) boxes) := by
  rw [m_app em_rows, e, em_app, List.length_map]
theorem set_boxes {i : Int} {s : Str} (h0 : 0 ≤ i) (h1 : i < boxes.length) : setItemD (.ptr (r.length + 4)) (.int i) (.str s) (em S r c rows boxes) = some (em S r c rows (boxes.set i.toNat s)) := by
  have e : ixN (boxes.map D.str).length i = some i.toNat := ixN_in h0 (by simpa using h1)
  simp only [setItemD, em_boxes, e, Option.map_some, em_box]
theorem nxE {many : Int} (h0 : 0 < many) (h1 : many < 1073741824) (q : ∀ i S', 0 ≤ i → i < many → Q (.int i) (em S' r c rows boxes)) : Ok (f__law_next [.ptr 1, .int many] (em S r c rows boxes)) Q := nx h0 h1 q
theorem nbE (q : ∀ i S', 0 ≤ i → i < 1000 → Q (.int i) (em S' r c rows boxes)) : Ok (f__law_number [.ptr 1] (em S r c rows boxes)) Q := nb q
@[simp] theorem settle_em {S' : Hs} {rows' : List (Str × List Int)} {boxes' : List Str} {d : D} : Ok (settle (em S r c rows boxes).length d (em S' r c rows' boxes')) Q ↔ Q d (em S' r c rows' boxes') := settle_at (by rw [em_len, em_len])
end
/-- one of some numbers -/
theorem pick {S : Hs} {r : Mem} {xs : List Int} {Q : D → Mem → Prop} {G : Gx} (h : xs ≠ []) (hl : xs.length < 1000000) (q : ∀ x S', x ∈ xs → Q (.int x) (hm S' r)) : Ok (f__law_next [.ptr 1, .int xs.length] (hm S r)) fun y m => Ok (idxD G (.lst (xs.map .int)) y m) Q := by
  have h0 : 0 < xs.length := List.length_pos_iff.mpr h
  refine nx (by omega) (by omega) fun i S' i0 i1 => ?_
  obtain ⟨x, e, hx⟩ := atI_map (l := xs) (f := D.int) i0 i1
  rw [i_lst', e]
  exact ⟨_, rfl, q x S' hx⟩
theorem pickE {S : Hs} {r : Mem} {c : Es} {rows : List (Str × List Int)} {boxes : List Str} {xs : List Int} {Q : D → Mem → Prop} {G : Gx} (h : xs ≠ []) (hl : xs.length < 1000000) (q : ∀ x S', x ∈ xs → Q (.int x) (em S' r c rows boxes)) : Ok (f__law_next [.ptr 1, .int xs.length] (em S r c rows boxes)) fun y m => Ok (idxD G (.lst (xs.map .int)) y m) Q := pick h hl q
/-- a row, its places up to the end -/
def RowIn (n nu : Nat) (x : Str × List Int) : Prop := RowOk (n + 1) nu x
def BoxOk (s : Str) : Prop := s ∈ (["good", "loose", "0", "1", "2", "3", "4", "5"] : List Str)
structure Inv (c : Es) (rows : List (Str × List Int)) (boxes : List Str) : Prop where
  b6 : boxes.length = 6
  bo : ∀ s ∈ boxes, BoxOk s
  ro : ∀ x ∈ rows, RowIn rows.length c.ow.length x
structure CoOk (c : Es) : Prop where
  f0 : c.fr ≠ []
  fl : c.fr.length < 1000000
  f6 : ∀ i ∈ c.fr, 0 ≤ i ∧ i < 6
  hh : ∀ h ∈ c.hs, HouseOk h
  o0 : c.ow ≠ []
  oh : ∀ i ∈ c.ow, 0 ≤ i ∧ i < c.hs.length
  ol : c.ow.length ≤ 1000
theorem RowIn.up {n k nu : Nat} {x : Str × List Int} (h : RowIn n nu x) (hk : n ≤ k) : RowIn k nu x := by
  obtain ⟨f, hf, h⟩ := h
  refine ⟨f, hf, ?_⟩
  clear hf
  revert h
  generalize x.2 = ps
  intro h
  induction h with
  | nil => exact .nil
  | cons h _ ih =>
    refine .cons ⟨h.1, ?_⟩ ih
    rename_i s _ _ _
    have := h.2
    cases s <;> simp only [So.most] at this ⊢ <;> omega
theorem Inv.app {c : Es} {rows : List (Str × List Int)} {boxes : List Str} {x : Str × List Int} (h : Inv c rows boxes) (hx : RowIn (rows.length + 1) c.ow.length x) : Inv c (rows ++ [x]) boxes := by
  refine ⟨h.b6, h.bo, fun y hy => ?_⟩
  rw [List.length_append, List.length_singleton]
  rcases List.mem_append.mp hy with e | e
  · exact (h.ro y e).up (by omega)
  · rw [List.mem_singleton.mp e]; exact hx
theorem Inv.box {c : Es} {rows : List (Str × List Int)} {boxes : List Str} {k : Nat} {s : Str} (h : Inv c rows boxes) (hs : BoxOk s) : Inv c rows (boxes.set k s) := by
  refine ⟨by rw [List.length_set]; exact h.b6, fun y hy => ?_, h.ro⟩
  rcases List.mem_or_eq_of_mem_set hy with e | e
  · exact h.bo y e
  · rw [e]; exact hs
theorem simple_ok (S : Hs) (r : Mem) (c : Es) (rows : List (Str × List Int)) (boxes : List Str) (hc : CoOk c) (hi : Inv c rows boxes) (hl : rows.length < 100000) :
    Ok (f__law_simple [.ptr 1, .ptr (r.length + 3)] (em S r c rows boxes)) fun d m => ∃ S' x boxes', d = .non ∧ m = em S' r c (rows ++ [x]) boxes' ∧ Inv c (rows ++ [x]) boxes' := by
  obtain ⟨bv, hat, hbv⟩ : ∃ bv : Int → Str, (∀ x : Int, 0 ≤ x → x < 6 → atI (boxes.map D.str) x = some (.str (bv x))) ∧ ∀ x : Int, 0 ≤ x → x < 6 → BoxOk (bv x) := by
    refine ⟨fun x => boxes.getD x.toNat "good", fun x h0 h1 => ?_, fun x h0 h1 => ?_⟩
    · have h6 := hi.b6
      obtain ⟨d, e, g⟩ := atI_get (l := boxes.map D.str) h0 (by simp; omega)
      rw [e, ← g, List.getElem?_map]
      have : x.toNat < boxes.length := by omega
      simp [List.getD, this]
    · have h6 := hi.b6
      have : x.toNat < boxes.length := by omega
      refine hi.bo _ ?_
      simp [List.getD, this]
  refine def_go rfl ?_
  refine s_cons (s_set ?_)
  simp
  refine ⟨_, rng6, ?_⟩
  refine lc_filtF (p := fun x => decide (bv x = "good")) (fun x hx => ?_) (by simp) ?_
  · refine ok_same (lc_body rfl ?_)
    have hat := hat x (by simp at hx; omega) (by simp at hx; omega)
    by_cases hz : bv x = "good" <;> simp [wipeE, hat, hz]
  generalize hgood : List.filter (fun x => decide (bv x = "good")) [0, 1, 2, 3, 4, 5] = good
  have hg : ∀ x ∈ good, 0 ≤ x ∧ x < 6 ∧ bv x = "good" := fun x hx => by
    rw [← hgood] at hx
    have h1 := (List.mem_filter.mp hx).1
    have h2 := (List.mem_filter.mp hx).2
    simp at h1 h2
    exact ⟨by omega, by omega, h2⟩
  refine s_cons (s_set ?_)
  simp
  refine pickE hc.f0 hc.fl fun goal S1 hgoal => ?_
  have hgo := hc.f6 goal hgoal
  refine s_cons (s_set ?_)
  simp
  refine nxE (by omega) (by omega) fun turn S2 t0 t1 => ?_
  obtain ⟨N, hN⟩ : ∃ N : EnvD → Mem → Prop, ∀ e mm, N e mm ↔ (∃ S' x e2 e3 e5 e7 e8 e9, mm = em S' r c rows boxes ∧ e = [some (.ptr 1), some (.ptr (r.length + 3)), e2, e3, some (.int goal), e5, some (rowD x), e7, e8, e9] ∧
    RowIn (rows.length + 1) c.ow.length x ∧ (x.1 = "say" ∨ (x.1 = "move" ∧ ∃ b, x.2 = [goal, b] ∧ 0 ≤ b ∧ b < 6) ∨ (x.1 ≠ "say" ∧ x.1 ≠ "move"))) := ⟨_, fun _ _ => Iff.rfl⟩
  refine s_cons (s_cut N (s_ite ?_) ?_)
  · have rok : ∀ (w : Str) (f : List So) (ps : List Int), (w, f) ∈ forms → All2 (fun p (s : So) => 0 ≤ p ∧ p < s.most ((rows.length + 1 : Nat) + 1) c.ow.length) ps f → RowIn (rows.length + 1) c.ow.length (w, ps) := fun w f ps h1 h2 => ⟨f, h1, h2⟩
    have hput : ∀ (n : Int) (_ : Hs), 0 ≤ n → n < 1000 → RowIn (rows.length + 1) c.ow.length ("put", [goal, n]) := fun n _ n0 n1 =>
      rok "put" [.b, .n] _ (by simp [forms]) (.cons ⟨hgo.1, hgo.2⟩ (.cons ⟨n0, n1⟩ .nil))
    have hgl : good.length < 1000000 := by
      have := List.length_filter_le (fun x => decide (bv x = "good")) [0, 1, 2, 3, 4, 5]
      rw [hgood] at this
      simp at this
      omega
    by_cases hg0 : good = []
    · simp [hg0]
      refine s_last (s_set ?_)
      simp
      refine nbE fun n S3 n0 n1 => ?_
      exact (hN _ _).mpr ⟨S3, (("put" : Str), [goal, n]), _, _, _, _, _, _, rfl, rfl, hput n S3 n0 n1, .inr (.inr ⟨by show ("put" : Str) ≠ _; decide +kernel, by show ("put" : Str) ≠ _; decide +kernel⟩)⟩
    by_cases ht0 : turn = 0
    · simp [hg0, ht0]
      refine s_last (s_set ?_)
      simp
      refine nbE fun n S3 n0 n1 => ?_
      exact (hN _ _).mpr ⟨S3, (("put" : Str), [goal, n]), _, _, _, _, _, _, rfl, rfl, hput n S3 n0 n1, .inr (.inr ⟨by show ("put" : Str) ≠ _; decide +kernel, by show ("put" : Str) ≠ _; decide +kernel⟩)⟩
    simp [hg0, ht0]
    refine s_last (s_ite ?_)
    by_cases ht1 : turn = 1
    · simp [ht1]
      refine s_last (s_set ?_)
      simp
      refine pickE hg0 hgl fun a S3 ha => ?_
      have ha := hg a ha
      exact (hN _ _).mpr ⟨S3, (("say" : Str), [a]), _, _, _, _, _, _, rfl, rfl, rok "say" [.b] _ (by simp [forms]) (.cons ⟨ha.1, ha.2.1⟩ .nil), .inl rfl⟩
    simp [ht1]
    refine s_last (s_ite ?_)
    by_cases ht2 : turn = 2
    · simp [ht2]
      refine s_cons (s_set ?_)
      simp
      refine ⟨_, rng6, ?_⟩
      refine lc_filtF (p := fun x => decide (bv x ≠ "loose")) (fun x hx => ?_) (by simp) ?_
      · refine ok_same (lc_body rfl ?_)
        have hat := hat x (by simp at hx; omega) (by simp at hx; omega)
        by_cases hz : bv x = "loose" <;> simp [wipeE, hat, hz]
      generalize hsome : List.filter (fun x => decide (bv x ≠ "loose")) [0, 1, 2, 3, 4, 5] = sm
      have hs : ∀ x ∈ sm, 0 ≤ x ∧ x < 6 := fun x hx => by
        rw [← hsome] at hx
        have h1 := (List.mem_filter.mp hx).1
        simp at h1
        omega
      have hs0 : sm ≠ [] := by
        obtain ⟨a, ha⟩ := List.exists_mem_of_ne_nil _ hg0
        have ha2 := hg a ha
        have : a ∈ sm := by
          rw [← hsome]
          rw [← hgood] at ha
          refine List.mem_filter.mpr ⟨(List.mem_filter.mp ha).1, ?_⟩
          rw [ha2.2.2]
          decide +kernel
        intro e
        rw [e] at this
        cases this
      have hsl : sm.length < 1000000 := by
        have := List.length_filter_le (fun x => decide (bv x ≠ "loose")) [0, 1, 2, 3, 4, 5]
        rw [hsome] at this
        simp at this
        omega
      refine s_last (s_set ?_)
      simp
      refine pickE hs0 hsl fun a S3 ha => ?_
      have ha := hs a ha
      exact (hN _ _).mpr ⟨S3, (("move" : Str), [goal, a]), _, _, _, _, _, _, rfl, rfl, rok "move" [.b, .b] _ (by simp [forms]) (.cons ⟨hgo.1, hgo.2⟩ (.cons ⟨ha.1, ha.2⟩ .nil)), .inr (.inl ⟨rfl, a, rfl, ha.1, ha.2⟩)⟩
    simp [ht2]
    refine s_cons (s_par ?_)
    simp
    refine pickE hg0 hgl fun a S3 ha => ?_
    have ha := hg a ha
    refine pickE hg0 hgl fun b S4 hb => ?_
    have hb := hg b hb
    refine s_last (s_set ?_)
    have hm2 : turn % 2 = 0 ∨ turn % 2 = 1 := by omega
    rcases hm2 with hm2 | hm2
    · simp [hm2]
      exact (hN _ _).mpr ⟨S4, (("add" : Str), [goal, a, b]), _, _, _, _, _, _, rfl, rfl, rok "add" [.b, .b, .b] _ (by simp [forms]) (.cons ⟨hgo.1, hgo.2⟩ (.cons ⟨ha.1, ha.2.1⟩ (.cons ⟨hb.1, hb.2.1⟩ .nil))), .inr (.inr ⟨by show ("add" : Str) ≠ _; decide +kernel, by show ("add" : Str) ≠ _; decide +kernel⟩)⟩
    · simp [hm2]
      exact (hN _ _).mpr ⟨S4, (("take" : Str), [goal, a, b]), _, _, _, _, _, _, rfl, rfl, rok "take" [.b, .b, .b] _ (by simp [forms]) (.cons ⟨hgo.1, hgo.2⟩ (.cons ⟨ha.1, ha.2.1⟩ (.cons ⟨hb.1, hb.2.1⟩ .nil))), .inr (.inr ⟨by show ("take" : Str) ≠ _; decide +kernel, by show ("take" : Str) ≠ _; decide +kernel⟩)⟩
  intro _ _ hn
  obtain ⟨S3, x, e2, e3, e5, e7, e8, e9, rfl, rfl, hx, hx2⟩ := (hN _ _).mp hn
  have hI : Inv c (rows ++ [x]) boxes := hi.app hx
  have hI2 : ∀ s, BoxOk s → Inv c (rows ++ [x]) (boxes.set goal.toNat s) := fun s hs => hI.box hs
  refine s_cons (s_exp ?_)
  simp
  rw [m_rows x rfl]
  refine ⟨by simp; omega, ?_⟩
  obtain ⟨w, ps⟩ := x
  have hb6 := hi.b6
  have hset := fun s S' => set_boxes (S := S') (r := r) (c := c) (rows := rows ++ [(w, ps)]) (boxes := boxes) (i := goal) (s := s) hgo.1 (by omega)
  refine s_last (s_ite ?_)
  rcases hx2 with hw | ⟨hw, b, hps, b0, b1⟩ | ⟨hw1, hw2⟩
  · simp only at hw
    simp [rowD, hw]
    refine s_nil ?_
    simp
    subst hw
    exact ⟨S3, _, _, boxes, rfl, hI⟩
  · simp only at hw hps
    subst hw hps
    have e1 : ¬ (Str.ofString "move" = Str.ofString "say") := by decide +kernel
    simp [rowD, e1]
    refine s_last (s_sub ?_)
    simp [hat b b0 b1, hset]
    exact ⟨S3, _, _, _, rfl, hI2 _ (hbv b b0 b1)⟩
  · simp only at hw1 hw2
    simp [rowD, hw1, hw2]
    refine s_last (s_sub ?_)
    simp [hw2, hset]
    exact ⟨S3, _, _, _, rfl, hI2 _ (by unfold BoxOk; simp)⟩
end Mi

set_option Elab.async false
set_option linter.all false
set_option maxRecDepth 100000
set_option maxHeartbeats 4000000
namespace Mi
open PySem L2 TL
theorem boxes_fn {boxes : List Str} (h6 : boxes.length = 6) (hb : ∀ s ∈ boxes, BoxOk s) : ∃ bv : Int → Str, (∀ x : Int, 0 ≤ x → x < 6 → atI (boxes.map D.str) x = some (.str (bv x))) ∧ ∀ x : Int, 0 ≤ x → x < 6 → BoxOk (bv x) := by
  refine ⟨fun x => boxes.getD x.toNat "good", fun x h0 h1 => ?_, fun x h0 h1 => ?_⟩
  · obtain ⟨d, e, g⟩ := atI_get (l := boxes.map D.str) h0 (by simp; omega)
    rw [e, ← g, List.getElem?_map]
    have : x.toNat < boxes.length := by omega
    simp [List.getD, this]
  · have : x.toNat < boxes.length := by omega
    refine hb _ ?_
    simp [List.getD, this]
theorem BoxOk.str {s : Str} (h : BoxOk s) : PyData.strOk s = true := by
  unfold BoxOk at h
  have : ∀ s ∈ (["good", "loose", "0", "1", "2", "3", "4", "5"] : List Str), PyData.strOk s = true := by decide +kernel
  exact this s h
theorem set_rows {S : Hs} {r : Mem} {c : Es} {rows : List (Str × List Int)} {boxes : List Str} {i : Int} {d : D} (x : Str × List Int) (e : d = rowD x) (h0 : 0 ≤ i) (h1 : i < rows.length) : setItemD (.ptr (r.length + 2)) (.int i) d (em S r c rows boxes) = some (em S r c (rows.set i.toNat x) boxes) := by
  have e2 : ixN (rows.map rowD).length i = some i.toNat := ixN_in h0 (by simpa using h1)
  simp only [setItemD, em_rows, e2, Option.map_some, e, em_put]
theorem e_len {S : Hs} {r : Mem} {c : Es} {rows : List (Str × List Int)} {boxes : List Str} : lenD (.ptr (r.length + 2)) (em S r c rows boxes) = some rows.length := by
  simp [lenD, em_rows]
theorem e_lof {S : Hs} {r : Mem} {c : Es} {rows : List (Str × List Int)} {boxes : List Str} : lofD (.ptr (r.length + 4)) (em S r c rows boxes) = some (boxes.map .str) := g_boxes
theorem zeroed_ok (S : Hs) (r : Mem) (c : Es) (rows : List (Str × List Int)) (boxes : List Str) (hc : CoOk c) (hi : Inv c rows boxes) (hl : rows.length < 90000) :
    Ok (f__law_zeroed [.ptr 1, .ptr (r.length + 3)] (em S r c rows boxes)) fun d m => ∃ S' rows' boxes', d = .non ∧ m = em S' r c rows' boxes' ∧ rows'.length ≤ rows.length + 4 ∧ Inv c rows' boxes' := by
  obtain ⟨bv, hat, hbv⟩ := boxes_fn hi.b6 hi.bo
  obtain ⟨Z, hZ⟩ : ∃ Z : D → Mem → Prop, ∀ d m, Z d m ↔ (∃ S' rows' boxes', d = .non ∧ m = em S' r c rows' boxes' ∧ rows'.length ≤ rows.length + 4 ∧ Inv c rows' boxes') := ⟨_, fun _ _ => Iff.rfl⟩
  refine Ok.mono (Q := Z) ?_ fun d m h => (hZ d m).mp h
  refine def_go rfl ?_
  refine s_cons (s_set ?_)
  simp
  refine ⟨_, rng6, ?_⟩
  refine lc_filtF (p := fun x => decide (bv x = "good")) (fun x hx => ?_) (by simp) ?_
  · refine ok_same (lc_body rfl ?_)
    have hat := hat x (by simp at hx; omega) (by simp at hx; omega)
    by_cases hz : bv x = "good" <;> simp [wipeE, hat, hz]
  generalize hgood : List.filter (fun x => decide (bv x = "good")) [0, 1, 2, 3, 4, 5] = good
  have hg : ∀ x ∈ good, 0 ≤ x ∧ x < 6 := fun x hx => by
    rw [← hgood] at hx
    have h1 := (List.mem_filter.mp hx).1
    simp at h1
    omega
  have hgl : good.length < 1000000 := by
    have := List.length_filter_le (fun x => decide (bv x = "good")) [0, 1, 2, 3, 4, 5]
    rw [hgood] at this
    simp at this
    omega
  refine s_cons (s_ite ?_)
  by_cases hg0 : good = []
  · simp [hg0]
    refine s_last (s_retN ?_)
    simp
    exact (hZ _ _).mpr ⟨S, rows, boxes, rfl, rfl, by omega, hi⟩
  simp [hg0]
  refine s_next ?_
  refine s_cons (s_set ?_)
  simp
  refine pickE hg0 hgl fun test S1 ht => ?_
  have ht := hg test ht
  refine s_cons (s_set ?_)
  simp [e_len]
  refine s_cons (s_exp ?_)
  simp
  refine (m_rows (("zero" : Str), [test, 0]) rfl).mpr ⟨by simp; omega, ?_⟩
  have hi1 : Inv c (rows ++ [(("zero" : Str), [test, 0])]) boxes := hi.app ⟨[.b, .r], by simp [forms], .cons ⟨ht.1, ht.2⟩ (.cons ⟨by omega, by simp only [So.most]; omega⟩ .nil)⟩
  refine s_cons (s_set ?_)
  simp [e_lof]
  obtain ⟨N, hN⟩ : ∃ N : List D → EnvD → Mem → Prop, ∀ ds e mm, N ds e mm ↔ (∃ S' rows' boxes' e3 e7, mm = em S' r c rows' boxes' ∧ e = [some (.ptr 1), some (.ptr (r.length + 3)), some (.lst (good.map .int)), e3, some (.int test), some (.int rows.length), some (.lst (boxes.map .str)), e7] ∧
    rows.length < rows'.length ∧ rows'.length + ds.length ≤ rows.length + 3 ∧ Inv c rows' boxes') := ⟨_, fun _ _ _ => Iff.rfl⟩
  refine s_cons (s_for N ?_ ?_ ?_)
  · simp
    refine nxE (by omega) (by omega) fun n S2 n0 n1 => ?_
    simp
    refine ⟨_, rng_eq (by omega) (by omega) (by omega) (by omega), ?_⟩
    exact (hN _ _ _).mpr ⟨S2, _, boxes, _, _, rfl, rfl, by simp, by simp; omega, hi1⟩
  · intro d ds e mm hn
    obtain ⟨S2, rows2, boxes2, e3, e7, rfl, rfl, h1, h2, h3⟩ := (hN _ _ _).mp hn
    rw [List.length_cons] at h2
    refine ⟨_, rfl, ?_⟩
    refine s_last (s_exp ?_)
    simp
    refine Ok.mono (simple_ok S2 r c rows2 boxes2 hc h3 (by omega)) fun d m ⟨S3, x, boxes3, e1, e2, e4⟩ => ?_
    subst e1 e2
    exact (hN _ _ _).mpr ⟨S3, _, boxes3, _, _, rfl, rfl, by simp; omega, by simp; omega, e4⟩
  intro e mm hn
  obtain ⟨S2, rows2, boxes2, e3, e7, rfl, rfl, h1, h2, h3⟩ := (hN _ _ _).mp hn
  simp at h2
  obtain ⟨bv2, hat2, hbv2⟩ := boxes_fn h3.b6 h3.bo
  obtain ⟨N2, hN2⟩ : ∃ N : EnvD → Mem → Prop, ∀ e mm, N e mm ↔ (∃ S' rows' e3 e7, mm = em S' r c rows' boxes2 ∧ e = [some (.ptr 1), some (.ptr (r.length + 3)), some (.lst (good.map .int)), e3, some (.int test), some (.int rows.length), some (.lst (boxes.map .str)), e7] ∧
    rows.length < rows'.length ∧ rows'.length ≤ rows.length + 4 ∧ Inv c rows' boxes2) := ⟨_, fun _ _ => Iff.rfl⟩
  refine s_cons (s_cut N2 (s_ite ?_) ?_)
  · simp
    refine nxE (by omega) (by omega) fun n S3 n0 n1 => ?_
    have hno : OSs g__law_zeroed .nil [some (.ptr 1), some (.ptr (r.length + 3)), some (.lst (good.map .int)), e3, some (.int test), some (.int rows.length), some (.lst (boxes.map .str)), e7] (em S3 r c rows2 boxes2) { nx := N2, rt := (Pd (em S r c rows boxes).length Z).rt, bk := (Pd (em S r c rows boxes).length Z).bk, ct := (Pd (em S r c rows boxes).length Z).ct } :=
      s_nil ((hN2 _ _).mpr ⟨S3, rows2, _, _, rfl, rfl, h1, by omega, h3⟩)
    by_cases hn0 : n = 0
    rotate_left
    · simp [hn0]
      exact hno
    simp [hn0, hat2 test ht.1 ht.2]
    by_cases hgd : bv2 test = "good"
    rotate_left
    · simp [hgd]
      exact hno
    have heq : eqM (em S3 r c rows2 boxes2) (.lst (boxes.map .str)) (.ptr (r.length + 4)) = some (decide (boxes = boxes2)) := eq_strs rfl g_boxes (fun y hy => (hi.bo y hy).str) (fun y hy => (h3.bo y hy).str)
    simp [hgd, heq]
    by_cases hbb : boxes = boxes2
    rotate_left
    · simp [hbb]
      exact hno
    refine .inr ⟨hbb, ?_⟩
    refine s_last (s_exp ?_)
    simp
    refine (m_rows (("go" : Str), [(rows.length : Int)]) rfl).mpr ⟨by simp; omega, ?_⟩
    exact (hN2 _ _).mpr ⟨S3, _, _, _, rfl, by rw [hbb], by simp; omega, by simp; omega, h3.app ⟨[.r], by simp [forms], .cons ⟨by omega, by simp only [So.most]; omega⟩ .nil⟩⟩
  intro e mm hn2
  obtain ⟨S3, rows3, e3, e7, rfl, rfl, h4, h5, h6⟩ := (hN2 _ _).mp hn2
  refine s_cons (s_sub ?_)
  simp [e_len]
  refine ⟨_, set_rows (("zero" : Str), [test, (rows3.length : Int)]) rfl (by omega) (by omega), ?_⟩
  have h7 : Inv c (rows3.set rows.length (("zero" : Str), [test, (rows3.length : Int)])) boxes2 := by
    refine ⟨h6.b6, h6.bo, fun y hy => ?_⟩
    rw [List.length_set]
    rcases List.mem_or_eq_of_mem_set hy with e | e
    · exact h6.ro y e
    · rw [e]
      exact ⟨[.b, .r], by simp [forms], .cons ⟨ht.1, ht.2⟩ (.cons ⟨by omega, by simp only [So.most]; omega⟩ .nil)⟩
  have h8 : (rows3.set rows.length (("zero" : Str), [test, (rows3.length : Int)])).length ≤ rows.length + 4 := by rw [List.length_set]; omega
  simp only [Int.toNat_natCast]
  generalize rows3.set rows.length (("zero" : Str), [test, (rows3.length : Int)]) = rows4 at h7 h8
  obtain ⟨N3, hN3⟩ : ∃ N : List D → EnvD → Mem → Prop, ∀ ds e mm, N ds e mm ↔ (∃ boxes' e3 e7, mm = em S3 r c rows4 boxes' ∧ e = [some (.ptr 1), some (.ptr (r.length + 3)), some (.lst (good.map .int)), e3, some (.int test), some (.int rows.length), some (.lst (boxes.map .str)), e7] ∧
    (∀ d ∈ ds, ∃ i : Int, d = .int i ∧ 0 ≤ i ∧ i < 6) ∧ Inv c rows4 boxes') := ⟨_, fun _ _ _ => Iff.rfl⟩
  refine s_last (s_for N3 ?_ ?_ ?_)
  · simp
    refine ⟨_, rng6, ?_⟩
    refine (hN3 _ _ _).mpr ⟨boxes2, _, _, rfl, rfl, ?_, h7⟩
    intro d hd
    obtain ⟨i, hi, rfl⟩ := List.mem_map.mp hd
    simp at hi
    exact ⟨i, rfl, by omega, by omega⟩
  · intro d ds e mm hn3
    obtain ⟨boxes4, e3, e7, rfl, rfl, h9, h10⟩ := (hN3 _ _ _).mp hn3
    obtain ⟨i, rfl, i0, i1⟩ := h9 d List.mem_cons_self
    obtain ⟨bv4, hat4, hbv4⟩ := boxes_fn h10.b6 h10.bo
    have h9r : ∀ d ∈ ds, ∃ i : Int, d = .int i ∧ 0 ≤ i ∧ i < 6 := fun d hd => h9 d (List.mem_cons_of_mem _ hd)
    refine ⟨_, rfl, ?_⟩
    refine s_last (s_ite ?_)
    simp [hat i i0 i1, hat4 i i0 i1]
    by_cases hb : bv4 i = bv i
    · simp [hb]
      exact s_nil ((hN3 _ _ _).mpr ⟨boxes4, _, _, rfl, rfl, h9r, h10⟩)
    · simp [hb]
      refine s_last (s_sub ?_)
      have h46 := h10.b6
      simp
      rw [set_boxes i0 (by omega)]
      exact ⟨_, rfl, (hN3 _ _ _).mpr ⟨_, _, _, rfl, rfl, h9r, h10.box (by unfold BoxOk; simp)⟩⟩
  · intro e mm hn3
    obtain ⟨boxes4, e3, e7, rfl, rfl, h9, h10⟩ := (hN3 _ _ _).mp hn3
    simp
    exact (hZ _ _).mpr ⟨_, _, _, rfl, rfl, h8, h10⟩
end Mi

set_option Elab.async false
set_option linter.all false
set_option maxRecDepth 100000
set_option maxHeartbeats 4000000
namespace Mi
open PySem L2 TL
theorem m_rowsE {S : Hs} {r : Mem} {c : Es} {rows : List (Str × List Int)} {boxes : List Str} {Q : D → Mem → Prop} {d : D} (x : List (Str × List Int)) (e : getL (em S r c rows boxes) d = some (x.map rowD)) : Ok (mthD (.ptr (r.length + 2)) .ext [d] (em S r c rows boxes)) Q ↔ rows.length + x.length ≤ line ∧ Q .non (em S r c (rows ++ x) boxes) := by
  rw [m_ext em_rows e, em_ext, List.length_map, List.length_map]
theorem Inv.apps {c : Es} {boxes : List Str} : ∀ {x rows : List (Str × List Int)}, Inv c rows boxes → (∀ y ∈ x, ∀ n, RowIn n c.ow.length y) → Inv c (rows ++ x) boxes
  | [], rows, h, _ => by rw [List.append_nil]; exact h
  | a :: x, rows, h, hx => by
    have := Inv.apps (x := x) (h.app (hx a List.mem_cons_self _)) fun y hy => hx y (List.mem_cons_of_mem _ hy)
    rwa [List.append_assoc] at this
theorem calling_ok (S : Hs) (r : Mem) (c : Es) (rows : List (Str × List Int)) (boxes : List Str) (hc : CoOk c) (hi : Inv c rows boxes) (hl : rows.length < 90000) :
    Ok (f__law_calling [.ptr 1, .ptr (r.length + 3)] (em S r c rows boxes)) fun d m => ∃ S' rows' boxes', d = .non ∧ m = em S' r c rows' boxes' ∧ rows'.length ≤ rows.length + 30 ∧ Inv c rows' boxes' := by
  obtain ⟨Z, hZ⟩ : ∃ Z : D → Mem → Prop, ∀ d m, Z d m ↔ (∃ S' rows' boxes', d = .non ∧ m = em S' r c rows' boxes' ∧ rows'.length ≤ rows.length + 30 ∧ Inv c rows' boxes') := ⟨_, fun _ _ => Iff.rfl⟩
  refine Ok.mono (Q := Z) ?_ fun d m h => (hZ d m).mp h
  have hol : 0 < c.ow.length := List.length_pos_iff.mpr hc.o0
  have hol2 := hc.ol
  refine def_go rfl ?_
  refine s_cons (s_set ?_)
  simp
  refine nxE (by omega) (by omega) fun called S1 k0 k1 => ?_
  refine s_cons (s_asg ?_)
  obtain ⟨ow, how, hom⟩ := atI_map (l := c.ow) (f := D.int) k0 k1
  obtain ⟨ow0, ow1⟩ := hc.oh ow hom
  obtain ⟨h, hh, hhm⟩ := atI_map (l := c.hs) (f := houseD) ow0 ow1
  have hho := hc.hh h hhm
  simp [how, hh]
  obtain ⟨ins, out, kept⟩ := h
  obtain ⟨hi1, hi2, ho, hno, hik⟩ := hho
  simp only at hi1 hi2 ho hno hik
  refine ⟨_, rfl, ?_⟩
  refine s_cons (s_set ?_)
  simp
  refine ⟨_, rng6, ?_⟩
  refine lc_filtF (p := fun x => decide (x ∉ c.fr)) (fun x hx => ?_) (by simp) ?_
  · refine ok_same (lc_body rfl ?_)
    by_cases hz : x ∈ c.fr <;> simp [wipeE, hz]
  generalize hfx : List.filter (fun x => decide (x ∉ c.fr)) [0, 1, 2, 3, 4, 5] = fx
  refine s_cons (s_ite ?_)
  simp [boxesD]
  have eio : ins.map D.int ++ [D.int out] = (ins ++ [out]).map D.int := by simp
  have hil := boxes_len hi1
  refine ⟨by omega, ?_⟩
  rw [eio]
  refine lc_filtF (p := fun x => decide (x ∈ fx)) (fun x hx => ?_) (by simp; omega) ?_
  · refine ok_same (lc_body rfl ?_)
    by_cases hz : x ∈ fx <;> simp [wipeE, hz]
  generalize hbad : List.filter (fun x => decide (x ∈ fx)) (ins ++ [out]) = bad
  by_cases hb0 : bad = []
  rotate_left
  · simp [hb0]
    refine s_last (s_retN ?_)
    simp
    exact (hZ _ _).mpr ⟨S1, rows, boxes, rfl, rfl, by omega, hi⟩
  simp [hb0]
  refine s_next ?_
  obtain ⟨N, hN⟩ : ∃ N : List D → EnvD → Mem → Prop, ∀ ds e mm, N ds e mm ↔ (∃ S' rows' boxes' e7, mm = em S' r c rows' boxes' ∧ e = [some (.ptr 1), some (.ptr (r.length + 3)), some (.int called), some (.tup (ins.map .int)), some (.int out), some (.tup (kept.map .int)), some (.lst (fx.map .int)), e7, none, none] ∧
    (∀ d ∈ ds, ∃ i : Int, d = .int i ∧ 0 ≤ i ∧ i < 6) ∧ rows'.length + ds.length ≤ rows.length + 6 ∧ Inv c rows' boxes') := ⟨_, fun _ _ _ => Iff.rfl⟩
  refine s_cons (s_for N ?_ ?_ ?_)
  · simp
    refine (hN _ _ _).mpr ⟨S1, rows, boxes, _, rfl, rfl, ?_, by simp; omega, hi⟩
    intro d hd
    obtain ⟨i, hi, rfl⟩ := List.mem_map.mp hd
    exact ⟨i, rfl, hi1.2 i hi⟩
  · intro d ds e mm hn
    obtain ⟨S2, rows2, boxes2, e7, rfl, rfl, h9, h10, h11⟩ := (hN _ _ _).mp hn
    obtain ⟨i, rfl, i0, i1⟩ := h9 d List.mem_cons_self
    obtain ⟨bv, hat, hbv⟩ := boxes_fn h11.b6 h11.bo
    have h9r : ∀ d ∈ ds, ∃ i : Int, d = .int i ∧ 0 ≤ i ∧ i < 6 := fun d hd => h9 d (List.mem_cons_of_mem _ hd)
    rw [List.length_cons] at h10
    refine ⟨_, rfl, ?_⟩
    refine s_last (s_ite ?_)
    simp [hat i i0 i1]
    by_cases hb : bv i = "good"
    · simp [hb]
      exact s_nil ((hN _ _ _).mpr ⟨S2, rows2, boxes2, _, rfl, rfl, h9r, by omega, h11⟩)
    · simp [hb]
      refine s_cons (s_exp ?_)
      simp
      refine nbE fun n S3 n0 n1 => ?_
      refine (m_rows (("put" : Str), [i, n]) rfl).mpr ⟨by simp; omega, ?_⟩
      refine s_last (s_sub ?_)
      have h46 := h11.b6
      simp
      rw [set_boxes i0 (by omega)]
      exact ⟨_, rfl, (hN _ _ _).mpr ⟨S3, _, _, _, rfl, rfl, h9r, by simp; omega, (h11.app ⟨[.b, .n], by simp [forms], .cons ⟨i0, i1⟩ (.cons ⟨n0, n1⟩ .nil)⟩).box (by unfold BoxOk; simp)⟩⟩
  intro e mm hn
  obtain ⟨S2, rows2, boxes2, e7, rfl, rfl, _, h10, h11⟩ := (hN _ _ _).mp hn
  simp at h10
  obtain ⟨bv, hat, hbv⟩ := boxes_fn h11.b6 h11.bo
  refine s_cons (s_set ?_)
  simp
  refine ⟨_, rng6, ?_⟩
  refine lc_filtF (p := fun x => decide (x ∉ kept ∧ bv x ≠ "loose" ∧ x ≠ out)) (fun x hx => ?_) (by simp) ?_
  · refine ok_same (lc_body rfl ?_)
    have hat := hat x (by simp at hx; omega) (by simp at hx; omega)
    by_cases hz : x ∈ kept
    · simp [wipeE, in_ints, hz]
    by_cases hz2 : bv x = "loose"
    · simp [wipeE, in_ints, hz, hz2, hat]
    by_cases hz3 : x = out
    · subst hz3
      simp [wipeE, in_ints, hz, hz2, hat]
    · simp [wipeE, in_ints, hz, hz2, hat, hz3]
  generalize hsm : List.filter (fun x => decide (x ∉ kept ∧ bv x ≠ "loose" ∧ x ≠ out)) [0, 1, 2, 3, 4, 5] = sm
  have hs6 : ∀ x ∈ sm, 0 ≤ x ∧ x < 6 := fun x hx => by
    rw [← hsm] at hx
    have h1 := (List.mem_filter.mp hx).1
    simp at h1
    omega
  have hsl : sm.length ≤ 6 := by
    have := List.length_filter_le (fun x => decide (x ∉ kept ∧ bv x ≠ "loose" ∧ x ≠ out)) [0, 1, 2, 3, 4, 5]
    rw [hsm] at this
    simpa using this
  refine s_cons (s_set ?_)
  simp
  refine lc_some (fun d => ∃ i : Int, d = .int i ∧ (0 ≤ i ∧ i < 6)) (fun m => ∃ S', m = em S' r c rows2 boxes2) ⟨S2, rfl⟩ ?_ (by simp; omega) ?_
  · rintro d hd m ⟨S3, rfl⟩
    obtain ⟨i, hi, rfl⟩ := List.mem_map.mp hd
    refine lc_body rfl ?_
    by_cases hz : i ∈ fx
    · simp [wipeE, hz]
      exact ⟨⟨_, rfl⟩, hs6 i hi⟩
    · simp [wipeE, hz]
      refine nxE (by omega) (by omega) fun n S4 n0 n1 => ?_
      by_cases hn0 : n = 0
      · simp [hn0]
        exact ⟨⟨_, rfl⟩, hs6 i hi⟩
      · simp [hn0]
        exact ⟨_, rfl⟩
  rintro xs m ⟨S3, rfl⟩ hxl hxs
  obtain ⟨sv, rfl, hsv⟩ := ints_of hxs
  simp at hxl
  refine s_cons (s_exp ?_)
  simp
  refine lc_mapF (g := fun i => rowD (("push" : Str), [i])) (fun i hi => ?_) (by simp; omega) ?_
  · refine ok_same (lc_body rfl ?_)
    simp [wipeE, rowD]
  refine (m_rowsE (sv.map fun i => (("push" : Str), [i])) (by simp [getL])).mpr ⟨by simp; omega, ?_⟩
  have h12 : Inv c (rows2 ++ sv.map fun i => (("push" : Str), [i])) boxes2 := h11.apps fun y hy n => by
    obtain ⟨i, hi, rfl⟩ := List.mem_map.mp hy
    exact ⟨[.b], by simp [forms], .cons (hsv i hi) .nil⟩
  have h13 : (rows2 ++ sv.map fun i => (("push" : Str), [i])).length ≤ rows.length + 12 := by simp; omega
  generalize (rows2 ++ sv.map fun i => (("push" : Str), [i])) = rows3 at h12 h13
  refine s_cons (s_exp ?_)
  simp
  refine (m_rows (("call" : Str), [called]) rfl).mpr ⟨by simp; omega, ?_⟩
  have h14 : Inv c (rows3 ++ [(("call" : Str), [called])]) boxes2 := h12.app ⟨[.u], by simp [forms], .cons ⟨k0, k1⟩ .nil⟩
  have h15 : (rows3 ++ [(("call" : Str), [called])]).length ≤ rows.length + 13 := by simp; omega
  generalize rows3 ++ [(("call" : Str), [called])] = rows4 at h14 h15
  refine s_cons (s_exp ?_)
  simp
  rw [← List.map_reverse]
  refine lc_mapF (g := fun i => rowD (("pop" : Str), [i])) (fun i hi => ?_) (by simp; omega) ?_
  · refine ok_same (lc_body rfl ?_)
    simp [wipeE, rowD]
  refine (m_rowsE (sv.reverse.map fun i => (("pop" : Str), [i])) (by simp [getL])).mpr ⟨by simp; omega, ?_⟩
  have h16 : Inv c (rows4 ++ sv.reverse.map fun i => (("pop" : Str), [i])) boxes2 := h14.apps fun y hy n => by
    obtain ⟨i, hi, rfl⟩ := List.mem_map.mp hy
    exact ⟨[.b], by simp [forms], .cons (hsv i (List.mem_reverse.mp hi)) .nil⟩
  have h17 : (rows4 ++ sv.reverse.map fun i => (("pop" : Str), [i])).length ≤ rows.length + 20 := by simp; omega
  generalize (rows4 ++ sv.reverse.map fun i => (("pop" : Str), [i])) = rows5 at h16 h17
  obtain ⟨N2, hN2⟩ : ∃ N : List D → EnvD → Mem → Prop, ∀ ds e mm, N ds e mm ↔ (∃ boxes' e7, mm = em S3 r c rows5 boxes' ∧ e = [some (.ptr 1), some (.ptr (r.length + 3)), some (.int called), some (.tup (ins.map .int)), some (.int out), some (.tup (kept.map .int)), some (.lst (fx.map .int)), e7, some (.lst (sm.map .int)), some (.lst (sv.map .int))] ∧
    (∀ d ∈ ds, ∃ i : Int, d = .int i ∧ 0 ≤ i ∧ i < 6) ∧ Inv c rows5 boxes') := ⟨_, fun _ _ _ => Iff.rfl⟩
  refine s_cons (s_for N2 ?_ ?_ ?_)
  · simp
    refine (hN2 _ _ _).mpr ⟨boxes2, _, rfl, rfl, ?_, h16⟩
    intro d hd
    obtain ⟨i, hi, rfl⟩ := List.mem_map.mp hd
    exact ⟨i, rfl, hs6 i hi⟩
  · intro d ds e mm hn2
    obtain ⟨boxes3, e7, rfl, rfl, h9, h18⟩ := (hN2 _ _ _).mp hn2
    obtain ⟨i, rfl, i0, i1⟩ := h9 d List.mem_cons_self
    obtain ⟨bv3, hat3, hbv3⟩ := boxes_fn h18.b6 h18.bo
    have h9r : ∀ d ∈ ds, ∃ i : Int, d = .int i ∧ 0 ≤ i ∧ i < 6 := fun d hd => h9 d (List.mem_cons_of_mem _ hd)
    have h46 := h18.b6
    refine ⟨_, rfl, ?_⟩
    refine s_last (s_sub ?_)
    by_cases hz : i ∈ sv
    · simp [hz, hat3 i i0 i1]
      rw [set_boxes i0 (by omega)]
      exact ⟨_, rfl, (hN2 _ _ _).mpr ⟨_, _, rfl, rfl, h9r, h18.box (hbv3 i i0 i1)⟩⟩
    · simp [hz]
      rw [set_boxes i0 (by omega)]
      exact ⟨_, rfl, (hN2 _ _ _).mpr ⟨_, _, rfl, rfl, h9r, h18.box (by unfold BoxOk; simp)⟩⟩
  intro e mm hn2
  obtain ⟨boxes3, e7, rfl, rfl, _, h18⟩ := (hN2 _ _ _).mp hn2
  have h46 := h18.b6
  refine s_last (s_sub ?_)
  simp
  rw [set_boxes ho.1 (by omega)]
  refine ⟨_, rfl, ?_⟩
  simp
  exact (hZ _ _).mpr ⟨_, _, _, rfl, rfl, by omega, h18.box (by unfold BoxOk; simp)⟩
end Mi

set_option Elab.async false
set_option linter.all false
set_option maxRecDepth 100000
set_option maxHeartbeats 4000000
namespace Mi
open PySem L2 TL
theorem set_dct {m : Mem} {p : Nat} {y d : D} {kvs : List (Key × D)} {k : Key} (h : m[p]? = some (.dct kvs)) (hk : kD y = some k) (hl : kvs.length < line) : setItemD (.ptr p) y d m = some (m.set p (.dct (putD kvs k d))) := by
  simp only [setItemD, h, hk, hl, if_true]
theorem hm_set1 {S : Hs} {r : Mem} {a b c x : Cell} : (hm S (r ++ [a, b, c])).set (r.length + 3) x = hm S (r ++ [a, x, c]) := by
  show _ :: _ :: (r ++ _).set (r.length + 1) _ = _
  rw [app_set]
  rfl
theorem hm_get1 {S : Hs} {r : Mem} {a b c : Cell} : (hm S (r ++ [a, b, c]))[r.length + 3]? = some b := by
  show (r ++ _)[r.length + 1]? = _
  rw [app_get]; rfl
theorem ed_eq {n : Nat} {c : Es} : putD (putD (putD (putD (putD [] (.inr "rows") (.ptr n)) (.inr "houses") (.tup (c.hs.map houseD))) (.inr "owners") (.lst (c.ow.map .int))) (.inr "boxes") (.ptr (n + 2))) (.inr "free") (.lst (c.fr.map .int)) = eD n c := rfl
theorem und_rout (n : Nat) (rt : Int × List (Str × List Int)) : (routD rt).und n = true := by
  have : D.undL n (rt.2.map rowD) = true := undL_map fun x _ => by simp [rowD, D.und, D.undL, und_ints]
  simp [routD, D.und, D.undL, this]
theorem und_hm {S : Hs} {r : Mem} {n : Nat} (h0 : 0 < n) (hr : r.all (Cell.und n) = true) : (hm S r).all (Cell.und n) = true := by
  have h1 : Cell.und n (.lst (S.cells.map .int)) = true := und_ints n S.cells
  have h2 : Cell.und n (.lst [.int S.x, .ptr 0, .int S.at_]) = true := by simp [Cell.und, D.undL, D.und, h0]
  show (Cell.und n _ && (Cell.und n _ && r.all (Cell.und n))) = true
  rw [h1, h2, hr]
  rfl
theorem kept_ok (S : Hs) (r : Mem) (hs : List (List Int × Int × List Int)) (ow : List Int) (k most : Int) (hr : r.all (Cell.und (r.length + 2)) = true) (hh : ∀ h ∈ hs, HouseOk h) (hoh : ∀ i ∈ ow, 0 ≤ i ∧ i < hs.length) (hol : ow.length ≤ 1000) (k0 : 0 ≤ k) (k1 : k < ow.length) (m0 : 0 ≤ most) (m1 : most ≤ 1000) :
    Ok (f__law_kept [.ptr 1, .tup (hs.map houseD), .lst (ow.map .int), .int k, .int most] (hm S r)) fun d m => ∃ S' rt, d = routD rt ∧ m = hm S' r ∧ RoutOk hs.length ow.length rt := by
  obtain ⟨Z, hZ⟩ : ∃ Z : D → Mem → Prop, ∀ d m, Z d m ↔ (∃ S' rt, d = routD rt ∧ m = hm S' r ∧ RoutOk hs.length ow.length rt) := ⟨_, fun _ _ => Iff.rfl⟩
  refine Ok.mono (Q := Z) ?_ fun d m h => (hZ d m).mp h
  refine def_go rfl ?_
  refine s_cons (s_asg ?_)
  obtain ⟨o, ho, hom⟩ := atI_map (l := ow) (f := D.int) k0 k1
  obtain ⟨o0, o1⟩ := hoh o hom
  obtain ⟨h, hh1, hhm⟩ := atI_map (l := hs) (f := houseD) o0 o1
  have hho := hh h hhm
  simp [ho, hh1]
  obtain ⟨ins, out, kept⟩ := h
  obtain ⟨hi1, hi2, hou, hno, hik⟩ := hho
  simp only at hi1 hi2 hou hno hik
  refine ⟨_, rfl, ?_⟩
  have hkl := boxes_len hi2
  refine s_cons (s_set ?_)
  simp [boxesD]
  refine lc_some (fun d => ∃ i : Int, d = .int i ∧ (0 ≤ i ∧ i < 6)) (fun m => ∃ S', m = hm S' r) ⟨S, rfl⟩ ?_ (by simp; omega) ?_
  · rintro d hd m ⟨S3, rfl⟩
    obtain ⟨i, hi, rfl⟩ := List.mem_map.mp hd
    refine lc_body rfl ?_
    simp [wipeE]
    refine nx (by omega) (by omega) fun n S4 n0 n1 => ?_
    by_cases hn0 : n = 0
    · simp [hn0]
      exact ⟨⟨_, rfl⟩, hi2.2 i hi⟩
    · simp [hn0]
      exact ⟨_, rfl⟩
  rintro xs m ⟨S1, rfl⟩ hxl hxs
  obtain ⟨sv, rfl, hsv⟩ := ints_of hxs
  simp at hxl
  refine s_cons (s_set ?_)
  simp
  refine lc_mapF (g := fun i => rowD (("push" : Str), [i])) (fun i hi => ?_) (by simp; omega) ?_
  · refine ok_same (lc_body rfl ?_)
    simp [wipeE, rowD]
  have eM : ∀ a b : Cell, hm S1 r ++ [a, b] = hm S1 (r ++ [a, b]) := fun _ _ => rfl
  have eM2 : ∀ a b c : Cell, hm S1 (r ++ [a, b]) ++ [c] = hm S1 (r ++ [a, b, c]) := fun a b c => by simp [hm]
  have eL : ∀ a b : Cell, (hm S1 (r ++ [a, b])).length = r.length + 4 := fun a b => by simp [hm]
  rw [eM, hm_len]
  refine s_cons (s_sub ?_)
  simp
  refine ⟨_, rng6, ?_⟩
  refine lc_mapF (g := fun x => .str (if x ∈ ins then "good" else if x ∈ kept then num x else "loose")) (fun x hx => ?_) (by simp) ?_
  · refine ok_same (lc_body rfl ?_)
    have hx2 : x.natAbs < 2 ^ 64 := by simp at hx; omega
    by_cases hz : x ∈ ins
    · simp [wipeE, in_ints, hz]
    by_cases hz2 : x ∈ kept
    · simp [wipeE, in_ints, hz, hz2]
      simp at hx; omega
    · simp [wipeE, in_ints, hz, hz2]
  have e3 : r.length + 2 + 1 = r.length + 3 := rfl
  rw [eM2, eL, e3]
  refine ⟨_, set_dct hm_get1 rfl (by show (3 : Nat) < line; simp), ?_⟩
  rw [hm_set1]
  generalize hbx : List.map (fun x => D.str (if x ∈ ins then "good" else if x ∈ kept then num x else "loose")) [0, 1, 2, 3, 4, 5] = bxs
  refine s_cons (s_sub ?_)
  simp
  refine ⟨_, rng6, ?_⟩
  refine lc_filtF (p := fun x => decide (x ∉ kept ∨ x ∈ sv)) (fun x hx => ?_) (by simp) ?_
  · refine ok_same (lc_body rfl ?_)
    by_cases hz : x ∈ kept
    · by_cases hz2 : x ∈ sv <;> simp [wipeE, in_ints, hz, hz2]
    · simp [wipeE, in_ints, hz]
  generalize hfr : List.filter (fun x => decide (x ∉ kept ∨ x ∈ sv)) [0, 1, 2, 3, 4, 5] = fr
  refine ⟨_, set_dct hm_get1 rfl (by show (4 : Nat) < line; simp), ?_⟩
  rw [hm_set1]
  obtain ⟨boxes, hbE, hb6, hbo⟩ : ∃ boxes : List Str, bxs = boxes.map .str ∧ boxes.length = 6 ∧ ∀ s ∈ boxes, BoxOk s := by
    refine ⟨([0, 1, 2, 3, 4, 5] : List Int).map fun x => (if x ∈ ins then "good" else if x ∈ kept then num x else "loose"), by rw [← hbx, List.map_map]; rfl, by simp, fun s hs => ?_⟩
    obtain ⟨x, hx, rfl⟩ := List.mem_map.mp hs
    have hn : ∀ x ∈ ([0, 1, 2, 3, 4, 5] : List Int), BoxOk (num x) := by unfold BoxOk; decide +kernel
    have := hn x hx
    split
    · unfold BoxOk; simp
    · split
      · exact this
      · unfold BoxOk; simp
  subst hbE
  generalize hrows : sv.map (fun i => (("push" : Str), [i])) = rows
  have hM : ∀ (X : Mem), X = hm S1 (r ++ [.lst (sv.map fun i => rowD (("push" : Str), [i])), .dct (eD (r.length + 2) ⟨hs, ow, fr⟩), .lst (boxes.map .str)]) → X = em S1 r ⟨hs, ow, fr⟩ rows boxes := by
    intro X e
    rw [e, ← hrows]
    simp [em]
    rfl
  rw [show r.length + 4 = r.length + 2 + 2 from rfl, ed_eq (c := ⟨hs, ow, fr⟩), hM _ rfl]
  have hc : CoOk ⟨hs, ow, fr⟩ := by
    have hf6 : ∀ i ∈ fr, 0 ≤ i ∧ i < 6 := fun i hi => by
      rw [← hfr] at hi
      have := (List.mem_filter.mp hi).1
      simp at this
      omega
    have hfl : fr.length ≤ 6 := by
      have := List.length_filter_le (fun x => decide (x ∉ kept ∨ x ∈ sv)) [0, 1, 2, 3, 4, 5]
      rw [hfr] at this
      simpa using this
    refine ⟨?_, by show fr.length < 1000000; omega, hf6, hh, ?_, hoh, hol⟩
    · intro e
      have : out ∈ fr := by
        rw [← hfr]
        refine List.mem_filter.mpr ⟨?_, by simp [hno]⟩
        simp
        omega
      rw [show fr = [] from e] at this
      cases this
    · intro e
      rw [show ow = [] from e] at k1
      simp at k1
      omega
  have hi0 : Inv ⟨hs, ow, fr⟩ rows boxes := by
    have : Inv ⟨hs, ow, fr⟩ ([] ++ rows) boxes := Inv.apps ⟨hb6, hbo, fun _ h => (by cases h)⟩ fun y hy n => by
      rw [← hrows] at hy
      obtain ⟨i, hi, rfl⟩ := List.mem_map.mp hy
      exact ⟨[.b], by simp [forms], .cons (hsv i hi) .nil⟩
    simpa using this
  have hrl : rows.length ≤ 6 := by rw [← hrows]; simp; omega
  generalize hcc : (⟨hs, ow, fr⟩ : Es) = c at hc hi0
  obtain ⟨N, hN⟩ : ∃ N : List D → EnvD → Mem → Prop, ∀ ds e mm, N ds e mm ↔ (∃ S' rows' boxes' e9 e11 e12, mm = em S' r c rows' boxes' ∧ e = [some (.ptr 1), some (.tup (hs.map houseD)), some (.lst (ow.map .int)), some (.int k),
      some (.int most), some (.tup (ins.map .int)), some (.int out), some (.tup (kept.map .int)), some (.lst (sv.map .int)), e9, some (.ptr (r.length + 3)), e11, e12, none] ∧
    rows'.length + 30 * ds.length ≤ 6 + 30 * 1001 ∧ Inv c rows' boxes') := ⟨_, fun _ _ _ => Iff.rfl⟩
  refine s_cons (s_for N ?_ ?_ ?_)
  · simp
    refine nxE (by omega) (by omega) fun n S2 n0 n1 => ?_
    refine ⟨n, rfl, _, rng_eq (by omega) (by omega) (by omega) (by omega), ?_⟩
    exact (hN _ _ _).mpr ⟨S2, rows, boxes, _, _, _, rfl, rfl, by simp; omega, hi0⟩
  · intro d ds e mm hn
    obtain ⟨S2, rows2, boxes2, e9, e11, e12, rfl, rfl, h1, h2⟩ := (hN _ _ _).mp hn
    rw [List.length_cons] at h1
    refine ⟨_, rfl, ?_⟩
    refine s_cons (s_set ?_)
    simp
    refine nxE (by omega) (by omega) fun turn S3 t0 t1 => ?_
    refine s_last (s_ite ?_)
    by_cases ht : turn < 2
    · simp [ht]
      refine s_last (s_exp ?_)
      simp
      refine Ok.mono (calling_ok S3 r c rows2 boxes2 hc h2 (by omega)) fun d m ⟨S4, rows3, boxes3, q1, q2, q3, q4⟩ => ?_
      subst q1 q2
      exact (hN _ _ _).mpr ⟨S4, _, boxes3, _, _, _, rfl, rfl, by omega, q4⟩
    simp [ht]
    refine s_last (s_ite ?_)
    by_cases ht2 : turn = 2
    · simp [ht2]
      refine s_last (s_exp ?_)
      simp
      refine Ok.mono (zeroed_ok S3 r c rows2 boxes2 hc h2 (by omega)) fun d m ⟨S4, rows3, boxes3, q1, q2, q3, q4⟩ => ?_
      subst q1 q2
      exact (hN _ _ _).mpr ⟨S4, _, boxes3, _, _, _, rfl, rfl, by omega, q4⟩
    · simp [ht2]
      refine s_last (s_exp ?_)
      simp
      refine Ok.mono (simple_ok S3 r c rows2 boxes2 hc h2 (by omega)) fun d m ⟨S4, x, boxes3, q1, q2, q4⟩ => ?_
      subst q1 q2
      exact (hN _ _ _).mpr ⟨S4, _, boxes3, _, _, _, rfl, rfl, by simp; omega, q4⟩
  intro e mm hn
  obtain ⟨S2, rows2, boxes2, e9, e11, e12, rfl, rfl, h1, h2⟩ := (hN _ _ _).mp hn
  simp at h1
  obtain ⟨bv, hat, hbv⟩ := boxes_fn h2.b6 h2.bo
  obtain ⟨N2, hN2⟩ : ∃ N : EnvD → Mem → Prop, ∀ e mm, N e mm ↔ (∃ S' rows', mm = em S' r c rows' boxes2 ∧ e = [some (.ptr 1), some (.tup (hs.map houseD)), some (.lst (ow.map .int)), some (.int k),
      some (.int most), some (.tup (ins.map .int)), some (.int out), some (.tup (kept.map .int)), some (.lst (sv.map .int)), e9, some (.ptr (r.length + 3)), e11, e12, none] ∧
    rows'.length ≤ 40000 ∧ Inv c rows' boxes2) := ⟨_, fun _ _ => Iff.rfl⟩
  refine s_cons (s_cut N2 (s_ite ?_) ?_)
  · simp [hat out hou.1 hou.2]
    by_cases hb : bv out = "good"
    · simp [hb]
      exact s_nil ((hN2 _ _).mpr ⟨S2, rows2, rfl, rfl, by omega, h2⟩)
    · simp [hb]
      refine s_last (s_exp ?_)
      simp
      refine nbE fun n S3 n0 n1 => ?_
      refine (m_rows (("put" : Str), [out, n]) rfl).mpr ⟨by simp; omega, ?_⟩
      exact (hN2 _ _).mpr ⟨S3, _, rfl, rfl, by simp; omega, h2.app ⟨[.b, .n], by simp [forms], .cons ⟨hou.1, hou.2⟩ (.cons ⟨n0, n1⟩ .nil)⟩⟩
  intro e mm hn2
  obtain ⟨S3, rows3, rfl, rfl, h3, h4⟩ := (hN2 _ _).mp hn2
  refine s_cons (s_set ?_)
  simp
  rw [← List.map_reverse]
  refine lc_mapF (g := fun i => rowD (("pop" : Str), [i])) (fun i hi => ?_) (by simp; omega) ?_
  · refine ok_same (lc_body rfl ?_)
    simp [wipeE, rowD]
  refine (b_lst (xs := rows3.map rowD) (ys := sv.reverse.map fun i => rowD (("pop" : Str), [i])) g_rows rfl).mpr ⟨by simp; omega, ?_⟩
  refine (b_lst rfl rfl).mpr ⟨by simp; omega, ?_⟩
  have hall : ∀ x ∈ rows3 ++ sv.reverse.map (fun i => (("pop" : Str), [i])), RowIn rows3.length ow.length x := fun x hx => by
    rcases List.mem_append.mp hx with e | e
    · have := h4.ro x e
      rwa [← hcc] at this
    · obtain ⟨i, hi, rfl⟩ := List.mem_map.mp e
      exact ⟨[.b], by simp [forms], .cons (hsv i (List.mem_reverse.mp hi)) .nil⟩
  have hlen : rows3.length ≤ (rows3 ++ sv.reverse.map (fun i => (("pop" : Str), [i]))).length := by simp
  have hlen2 : (rows3 ++ sv.reverse.map (fun i => (("pop" : Str), [i]))).length ≤ 50000 := by simp; omega
  have hmap : rows3.map rowD ++ (sv.reverse.map fun i => rowD (("pop" : Str), [i])) ++ [.tup [.str "back"]] = (rows3 ++ sv.reverse.map (fun i => (("pop" : Str), [i])) ++ [(("back" : Str), [])]).map rowD := by simp [rowD]
  rw [hmap]
  generalize rows3 ++ sv.reverse.map (fun i => (("pop" : Str), [i])) = rows4 at hall hlen hlen2
  obtain ⟨N3, hN3⟩ : ∃ N : EnvD → Mem → Prop, ∀ e mm, N e mm ↔ (∃ rows', mm = em S3 r c rows3 boxes2 ∧ e = [some (.ptr 1), some (.tup (hs.map houseD)), some (.lst (ow.map .int)), some (.int k),
      some (.int most), some (.tup (ins.map .int)), some (.int out), some (.tup (kept.map .int)), some (.lst (sv.map .int)), e9, some (.ptr (r.length + 3)), e11, e12, some (.lst (rows'.map rowD))] ∧
    RoutOk hs.length ow.length (o, rows')) := ⟨_, fun _ _ => Iff.rfl⟩
  refine s_cons (s_cut N3 (s_ite ?_) ?_)
  · by_cases h32 : rows4.length < 32
    · have h32' : (rows4.length : Int) + 1 ≤ 32 := by omega
      have : ¬ (32 : Int) < (rows4.length : Int) + 1 := by omega
      simp [h32, h32', this]
      refine s_nil ((hN3 _ _).mpr ⟨rows4 ++ [(("back" : Str), [])], rfl, by simp, ⟨o0, o1⟩, ⟨by simp, by simp; omega⟩, ?_, ?_⟩)
      · intro x hx
        rcases List.mem_append.mp hx with e | e
        · have := (hall x e).up (k := rows4.length) (by omega)
          simpa [RowIn] using this
        · rw [List.mem_singleton.mp e]
          exact ⟨[], by simp [forms], .nil⟩
      · exact ⟨(("back" : Str), []), by simp, .inr rfl⟩
    · have h32' : ¬ (rows4.length : Int) + 1 ≤ 32 := by omega
      have : (32 : Int) < (rows4.length : Int) + 1 := by omega
      simp [h32, h32', this]
      refine s_last (s_set ?_)
      simp
      refine (hN3 _ _).mpr ⟨[(("put" : Str), [out, 1]), (("back" : Str), [])], rfl, by simp [rowD], ⟨o0, o1⟩, ⟨by simp, by simp⟩, ?_, ?_⟩
      · intro x hx
        simp at hx
        rcases hx with rfl | rfl
        · exact ⟨[.b, .n], by simp [forms], .cons ⟨hou.1, hou.2⟩ (.cons ⟨by omega, by simp only [So.most]; omega⟩ .nil)⟩
        · exact ⟨[], by simp [forms], .nil⟩
      · exact ⟨(("back" : Str), []), by simp, .inr rfl⟩
  intro e mm hn3
  obtain ⟨rows5, rfl, rfl, h5⟩ := (hN3 _ _).mp hn3
  refine s_last (s_ret ?_)
  simp [ho]
  show Ok (settle _ (routD (o, rows5)) (hm S3 r ++ [_, _, _])) Z
  rw [settle_drop (by simp [hm]) (und_rout _ (o, rows5)) (und_hm (by simp [hm]) (by rw [hm_len]; exact hr))]
  exact (hZ _ _).mpr ⟨S3, (o, rows5), rfl, rfl, h5⟩
end Mi

set_option Elab.async false
set_option linter.all false
set_option maxRecDepth 100000
set_option maxHeartbeats 4000000
namespace Mi
open PySem L2 TL
theorem of_all {α : Type} {f : α → D} {P : α → Prop} : ∀ {xs : List D}, (∀ x ∈ xs, ∃ a, x = f a ∧ P a) → ∃ l : List α, xs = l.map f ∧ ∀ a ∈ l, P a
  | [], _ => ⟨[], rfl, fun _ h => (by cases h)⟩
  | x :: xs, h => by
    obtain ⟨l, rfl, hl⟩ := of_all fun y hy => h y (List.mem_cons_of_mem _ hy)
    obtain ⟨i, rfl, hi⟩ := h x List.mem_cons_self
    refine ⟨i :: l, rfl, fun j hj => ?_⟩
    rcases List.mem_cons.mp hj with e | e
    · rw [e]; exact hi
    · exact hl j e
theorem rng_n {n : Nat} (h : n < 1000000) : rngD 0 (n : Int) = some ((List.range n).map fun k => .int (k : Nat)) := by
  rw [rng_eq (by omega) (by omega) (by omega) (by omega)]
  simp
theorem program_ok (S : Hs) (r : Mem) (most : Int) (hr : r.all (Cell.und (r.length + 2)) = true) (m0 : 0 < most) (m1 : most ≤ 6) :
    Ok (f__law_program [.ptr 1, .int most] (hm S r)) fun d m => ∃ S' p, d = progD p ∧ m = hm S' r ∧ ProgOk p := by
  obtain ⟨Z, hZ⟩ : ∃ Z : D → Mem → Prop, ∀ d m, Z d m ↔ (∃ S' p, d = progD p ∧ m = hm S' r ∧ ProgOk p) := ⟨_, fun _ _ => Iff.rfl⟩
  refine Ok.mono (Q := Z) ?_ fun d m h => (hZ d m).mp h
  refine def_go rfl ?_
  refine s_cons (s_set ?_)
  simp
  refine nx (by omega) (by omega) fun a S1 a0 a1 => ?_
  simp
  refine ⟨_, rng_eq (by omega) (by omega) (by omega) (by omega), ?_⟩
  refine lc_all (fun d => ∃ h, d = houseD h ∧ HouseOk h) (fun m => ∃ S', m = hm S' r) ⟨S1, rfl⟩ ?_ (by simp; omega) ?_
  · rintro d hd m ⟨S2, rfl⟩
    refine lc_body rfl ?_
    simp [wipeE]
    refine Ok.mono (house_ok S2 r) fun d m ⟨h, S3, e1, h1, e2⟩ => ?_
    subst e1 e2
    exact ⟨⟨_, rfl⟩, h.1, h.2.1, h.2.2, rfl, h1⟩
  rintro xs m ⟨S2, rfl⟩ hxl hxs
  obtain ⟨hs, rfl, hhs⟩ := of_all hxs
  simp at hxl
  refine s_cons (s_set ?_)
  simp
  refine nx (by omega) (by omega) fun b S3 b0 b1 => ?_
  simp
  refine ⟨_, rng_eq (by omega) (by omega) (by omega) (by omega), ?_⟩
  refine lc_all (fun d => ∃ i : Int, d = .int i ∧ (0 ≤ i ∧ i < hs.length)) (fun m => ∃ S', m = hm S' r) ⟨S3, rfl⟩ ?_ (by simp; omega) ?_
  · rintro d hd m ⟨S4, rfl⟩
    refine lc_body rfl ?_
    simp [wipeE]
    refine nx (by omega) (by omega) fun i S5 i0 i1 => ?_
    exact ⟨⟨_, rfl⟩, i, rfl, i0, i1⟩
  rintro xs m ⟨S4, rfl⟩ hol hxs
  obtain ⟨ow, rfl, how⟩ := ints_of hxs
  simp at hol
  refine s_cons (s_set ?_)
  simp
  refine nx (by omega) (by omega) fun c S5 c0 c1 => ?_
  obtain ⟨sz, hz, hz0⟩ : ∃ sz : Int, atI [D.int 6, D.int 14] c = some (.int sz) ∧ (0 ≤ sz ∧ sz ≤ 1000) := by
    have : c = 0 ∨ c = 1 := by omega
    rcases this with rfl | rfl
    · exact ⟨6, by simp, by omega⟩
    · exact ⟨14, by simp, by omega⟩
  simp [hz]
  refine s_last (s_ret ?_)
  simp
  refine ⟨_, rng_n (by omega), ?_⟩
  refine lc_all (fun d => ∃ rt, d = routD rt ∧ RoutOk hs.length ow.length rt) (fun m => ∃ S', m = hm S' r) ⟨S5, rfl⟩ ?_ (by simp; omega) ?_
  · rintro d hd m ⟨S6, rfl⟩
    obtain ⟨k, hk, rfl⟩ := List.mem_map.mp hd
    have hk := List.mem_range.mp hk
    refine lc_body rfl ?_
    simp [wipeE]
    refine Ok.mono (kept_ok S6 r hs ow k sz hr hhs how (by omega) (by omega) (by omega) hz0.1 hz0.2) fun d m ⟨S7, rt, e1, e2, h1⟩ => ?_
    subst e1 e2
    exact ⟨⟨_, rfl⟩, rt.1, rt.2, rfl, h1⟩
  rintro xs m ⟨S6, rfl⟩ hrl hxs
  obtain ⟨rts, rfl, hrt⟩ := of_all hxs
  simp at hrl
  simp
  exact (hZ _ _).mpr ⟨S6, (hs, rts), rfl, rfl, ⟨by simp; omega, by simp; omega⟩, hhs, ⟨by simp; omega, by simp; omega⟩, fun rt h => by
    have := hrt rt h
    simp only
    rw [hrl]
    exact this⟩
end Mi

set_option Elab.async false
set_option linter.all false
set_option maxRecDepth 100000
set_option maxHeartbeats 4000000
namespace Mi
open PySem L2 TL
theorem wild_row_ok (S : Hs) (r : Mem) (nr nu : Int) (r0 : 0 < nr) (r1 : nr ≤ 1000) (u0 : 0 < nu) (u1 : nu ≤ 1000) :
    Ok (f__law_wild_row [.ptr 1, .int nr, .int nu] (hm S r)) fun d m => ∃ S' x, d = rowD x ∧ m = hm S' r ∧ RowOk nr nu x := by
  obtain ⟨Z, hZ⟩ : ∃ Z : D → Mem → Prop, ∀ d m, Z d m ↔ (∃ S' x, d = rowD x ∧ m = hm S' r ∧ RowOk nr nu x) := ⟨_, fun _ _ => Iff.rfl⟩
  refine Ok.mono (Q := Z) ?_ fun d m h => (hZ d m).mp h
  refine def_go rfl ?_
  refine s_cons (s_set ?_)
  simp
  refine s_cons (s_set ?_)
  simp
  refine nx (by omega) (by omega) fun a S1 a0 a1 => ?_
  obtain ⟨w, hw, hwm⟩ := atI_map (l := ([("put" : Str), "move", "add", "take", "push", "push", "pop", "pop", "say", "zero", "zero", "go", "call", "back"] : List Str)) (f := D.str) a0 (by simpa using a1)
  simp only [List.map_cons, List.map_nil] at hw
  simp [hw]
  clear hw a0 a1
  refine s_cons (s_set ?_)
  simp
  refine ⟨_, rng_eq (i := 0) (j := 3) (by omega) (by omega) (by omega) (by omega), ?_⟩
  refine lc_all (fun d => ∃ i : Int, d = .int i ∧ (0 ≤ i ∧ i < 6)) (fun m => ∃ S', m = hm S' r) ⟨S1, rfl⟩ ?_ (by simp) ?_
  · rintro d hd m ⟨S4, rfl⟩
    refine lc_body rfl ?_
    simp [wipeE]
    refine nx (by omega) (by omega) fun i S5 i0 i1 => ?_
    exact ⟨⟨_, rfl⟩, i, rfl, i0, i1⟩
  rintro xs m ⟨S2, rfl⟩ hxl hxs
  obtain ⟨l, rfl, hl⟩ := ints_of hxs
  simp at hxl
  obtain ⟨b1, b2, b3, rfl⟩ : ∃ b1 b2 b3, l = [b1, b2, b3] := by
    match l, hxl with
    | [b1, b2, b3], _ => exact ⟨b1, b2, b3, rfl⟩
  have h1 := hl b1 (by simp)
  have h2 := hl b2 (by simp)
  have h3 := hl b3 (by simp)
  clear hl hxs hxl
  have hw2 : w ∈ (["put", "zero", "go", "call", "back", "move", "push", "pop", "say", "add", "take"] : List Str) := by
    have : ∀ w ∈ ([("put" : Str), "move", "add", "take", "push", "push", "pop", "pop", "say", "zero", "zero", "go", "call", "back"] : List Str), w ∈ (["put", "zero", "go", "call", "back", "move", "push", "pop", "say", "add", "take"] : List Str) := by decide +kernel
    exact this w hwm
  have hstr : ∀ x ∈ (["put", "zero", "go", "call", "back", "move", "push", "pop", "say", "add", "take"] : List Str), PyData.strOk x = true := by decide +kernel
  have hin : ∀ m, inD g__law_wild_row (.str w) (.tup [.str "move", .str "push", .str "pop", .str "say", .str "add", .str "take"]) m = some (decide (w ∈ (["move", "push", "pop", "say", "add", "take"] : List Str))) := fun m =>
    in_strs (l := ["move", "push", "pop", "say", "add", "take"]) (hstr w hw2) (by decide +kernel)
  clear hwm
  have hin2 := hin
  simp at hw2
  by_cases hm1 : w ∈ (["move", "push", "pop", "say", "add", "take"] : List Str)
  · refine s_cons (s_ite ?_)
    simp only [hm1, decide_true] at hin
    simp [hin]
    refine s_last (s_ret ?_)
    simp only [List.mem_cons, List.not_mem_nil, or_false] at hm1
    rcases hm1 with rfl | rfl | rfl | rfl | rfl | rfl
    · simp
      refine (m_get (k := .inl 0)).mpr ⟨_, rfl, ?_⟩
      refine ⟨2, rfl, ?_⟩
      rw [cut_toI _ (by omega)]
      refine ⟨by simp, (settle_hm rfl).mpr ((hZ _ _).mpr ⟨S2, (("move" : Str), [b1, b2]), rfl, rfl, [.b, .b], by simp [forms], .cons h1 (.cons h2 .nil)⟩)⟩
    · simp
      refine (m_get (k := .inl 0)).mpr ⟨_, rfl, ?_⟩
      refine ⟨1, rfl, ?_⟩
      rw [cut_toI _ (by omega)]
      refine ⟨by simp, (settle_hm rfl).mpr ((hZ _ _).mpr ⟨S2, (("push" : Str), [b1]), rfl, rfl, [.b], by simp [forms], (.cons h1 .nil)⟩)⟩
    · simp
      refine (m_get (k := .inl 0)).mpr ⟨_, rfl, ?_⟩
      refine ⟨1, rfl, ?_⟩
      rw [cut_toI _ (by omega)]
      refine ⟨by simp, (settle_hm rfl).mpr ((hZ _ _).mpr ⟨S2, (("pop" : Str), [b1]), rfl, rfl, [.b], by simp [forms], (.cons h1 .nil)⟩)⟩
    · simp
      refine (m_get (k := .inl 0)).mpr ⟨_, rfl, ?_⟩
      refine ⟨1, rfl, ?_⟩
      rw [cut_toI _ (by omega)]
      refine ⟨by simp, (settle_hm rfl).mpr ((hZ _ _).mpr ⟨S2, (("say" : Str), [b1]), rfl, rfl, [.b], by simp [forms], (.cons h1 .nil)⟩)⟩
    · simp
      refine (m_get (k := .inl 0)).mpr ⟨_, rfl, ?_⟩
      refine ⟨3, rfl, ?_⟩
      rw [cut_toI _ (by omega)]
      refine ⟨by simp, (settle_hm rfl).mpr ((hZ _ _).mpr ⟨S2, (("add" : Str), [b1, b2, b3]), rfl, rfl, [.b, .b, .b], by simp [forms], (.cons h1 (.cons h2 (.cons h3 .nil)))⟩)⟩
    · simp
      refine (m_get (k := .inl 0)).mpr ⟨_, rfl, ?_⟩
      refine ⟨3, rfl, ?_⟩
      rw [cut_toI _ (by omega)]
      refine ⟨by simp, (settle_hm rfl).mpr ((hZ _ _).mpr ⟨S2, (("take" : Str), [b1, b2, b3]), rfl, rfl, [.b, .b, .b], by simp [forms], (.cons h1 (.cons h2 (.cons h3 .nil)))⟩)⟩
  · refine s_cons (s_ite ?_)
    simp only [hm1, decide_false] at hin
    simp [hin]
    refine s_next ?_
    refine s_cons (s_ite ?_)
    by_cases hput : w = "put"
    · subst hput
      simp
      refine s_last (s_ret ?_)
      simp
      refine nb fun n S3 n0 n1 => ?_
      exact (settle_hm rfl).mpr ((hZ _ _).mpr ⟨S3, (("put" : Str), [b1, n]), rfl, rfl, [.b, .n], by simp [forms], .cons h1 (.cons ⟨n0, n1⟩ .nil)⟩)
    simp [hput]
    refine s_next ?_
    refine s_cons (s_ite ?_)
    by_cases hzero : w = "zero"
    · subst hzero
      simp
      refine s_last (s_ret ?_)
      simp
      refine nx r0 (by omega) fun n S3 n0 n1 => ?_
      exact (settle_hm rfl).mpr ((hZ _ _).mpr ⟨S3, (("zero" : Str), [b1, n]), rfl, rfl, [.b, .r], by simp [forms], .cons h1 (.cons ⟨n0, n1⟩ .nil)⟩)
    simp [hzero]
    refine s_next ?_
    refine s_last (s_ret ?_)
    simp
    refine nx r0 (by omega) fun n S3 n0 n1 => ?_
    refine nx u0 (by omega) fun n' S4 n'0 n'1 => ?_
    simp only [hput, hzero, List.mem_cons, List.not_mem_nil, or_false, not_or] at hw2 hm1
    have hw3 : w = "go" ∨ w = "call" ∨ w = "back" := by
      rcases hw2 with h | h | h | h | h <;> simp_all
    rcases hw3 with rfl | rfl | rfl
    · refine (i_dct rfl rfl).mpr ⟨_, rfl, ?_⟩
      exact (settle_hm rfl).mpr ((hZ _ _).mpr ⟨S4, (("go" : Str), [n]), rfl, rfl, [.r], by simp [forms], .cons ⟨n0, n1⟩ .nil⟩)
    · refine (i_dct rfl rfl).mpr ⟨_, rfl, ?_⟩
      exact (settle_hm rfl).mpr ((hZ _ _).mpr ⟨S4, (("call" : Str), [n']), rfl, rfl, [.u], by simp [forms], .cons ⟨n'0, n'1⟩ .nil⟩)
    · refine (i_dct rfl rfl).mpr ⟨_, rfl, ?_⟩
      exact (settle_hm rfl).mpr ((hZ _ _).mpr ⟨S4, (("back" : Str), []), rfl, rfl, [], by simp [forms], .nil⟩)
end Mi

set_option Elab.async false
set_option linter.all false
set_option maxRecDepth 100000
set_option maxHeartbeats 4000000
namespace Mi
open PySem L2 TL
/-- the program's memory with one list behind -/
def fm (S : Hs) (r : Mem) (l : List (Int × List (Str × List Int))) : Mem := hm S (r ++ [.lst (l.map routD)])
theorem fm_get {S : Hs} {r : Mem} {l : List (Int × List (Str × List Int))} : (fm S r l)[r.length + 2]? = some (.lst (l.map routD)) := by simp [fm, hm]
theorem fm_app {S : Hs} {r : Mem} {l : List (Int × List (Str × List Int))} {x : Int × List (Str × List Int)} : (fm S r l).set (r.length + 2) (.lst (l.map routD ++ [routD x])) = fm S r (l ++ [x]) := by
  show _ :: _ :: (r ++ _).set r.length _ = _
  rw [app_set0]
  simp [fm, hm]
theorem m_fm {S : Hs} {r : Mem} {l : List (Int × List (Str × List Int))} {Q : D → Mem → Prop} {d : D} (x : Int × List (Str × List Int)) (e : d = routD x) : Ok (mthD (.ptr (r.length + 2)) .app [d] (fm S r l)) Q ↔ l.length < line ∧ Q .non (fm S r (l ++ [x])) := by
  rw [m_app fm_get, e, fm_app, List.length_map]
theorem wild_ok (S : Hs) (r : Mem) (most : Int) (hr : r.all (Cell.und (r.length + 2)) = true) (m0 : 0 < most) (m1 : most ≤ 32) :
    Ok (f__law_wild [.ptr 1, .int most] (hm S r)) fun d m => ∃ S' p, d = progD p ∧ m = hm S' r ∧ ProgOk p := by
  obtain ⟨Z, hZ⟩ : ∃ Z : D → Mem → Prop, ∀ d m, Z d m ↔ (∃ S' p, d = progD p ∧ m = hm S' r ∧ ProgOk p) := ⟨_, fun _ _ => Iff.rfl⟩
  refine Ok.mono (Q := Z) ?_ fun d m h => (hZ d m).mp h
  refine def_go rfl ?_
  refine s_cons (s_set ?_)
  simp
  refine nx (by omega) (by omega) fun a S1 a0 a1 => ?_
  simp
  refine ⟨_, rng_eq (by omega) (by omega) (by omega) (by omega), ?_⟩
  refine lc_all (fun d => ∃ h, d = houseD h ∧ HouseOk h) (fun m => ∃ S', m = hm S' r) ⟨S1, rfl⟩ ?_ (by simp; omega) ?_
  · rintro d hd m ⟨S2, rfl⟩
    refine lc_body rfl ?_
    simp [wipeE]
    refine Ok.mono (house_ok S2 r) fun d m ⟨h, S3, e1, h1, e2⟩ => ?_
    subst e1 e2
    exact ⟨⟨_, rfl⟩, h.1, h.2.1, h.2.2, rfl, h1⟩
  rintro xs m ⟨S2, rfl⟩ hxl hxs
  obtain ⟨hs, rfl, hhs⟩ := of_all hxs
  simp at hxl
  refine s_cons (s_set ?_)
  simp
  refine nx (by omega) (by omega) fun b S3 b0 b1 => ?_
  simp
  refine s_cons (s_set ?_)
  simp
  rw [hm_len, show hm S3 r ++ [.lst []] = fm S3 r [] from rfl]
  obtain ⟨N, hN⟩ : ∃ N : List D → EnvD → Mem → Prop, ∀ ds e mm, N ds e mm ↔ (∃ S' l e3 e6 e7 e8, mm = fm S' r l ∧ e = [some (.ptr 1), some (.int most), some (.tup (hs.map houseD)), e3, some (.int (1 + b)), some (.ptr (r.length + 2)), e6, e7, e8] ∧
    ((l.length + ds.length : Nat) : Int) = 1 + b ∧ ∀ x ∈ l, RoutOk hs.length (1 + b) x) := ⟨_, fun _ _ _ => Iff.rfl⟩
  refine s_cons (s_for N ?_ ?_ ?_)
  · simp
    refine ⟨_, rng_eq (by omega) (by omega) (by omega) (by omega), ?_⟩
    exact (hN _ _ _).mpr ⟨S3, [], _, _, _, _, rfl, rfl, by simp; omega, fun _ h => (by cases h)⟩
  · intro d ds e mm hn
    obtain ⟨S4, l, e3, e6, e7, e8, rfl, rfl, h1, h2⟩ := (hN _ _ _).mp hn
    rw [List.length_cons] at h1
    refine ⟨_, rfl, ?_⟩
    refine s_cons (s_set ?_)
    simp
    refine nx (r := r ++ [_]) m0 (by omega) fun c S5 c0 c1 => ?_
    simp
    refine s_cons (s_set ?_)
    simp
    refine ⟨_, rng_eq (by omega) (by omega) (by omega) (by omega), ?_⟩
    refine lc_all (fun d => ∃ x, d = rowD x ∧ RowOk (1 + c) (1 + b) x) (fun m => ∃ S', m = fm S' r l) ⟨S5, rfl⟩ ?_ (by simp; omega) ?_
    · rintro d hd m ⟨S6, rfl⟩
      refine lc_body rfl ?_
      simp [wipeE]
      refine Ok.mono (wild_row_ok S6 (r ++ [_]) (1 + c) (1 + b) (by omega) (by omega) (by omega) (by omega)) fun d m ⟨S7, x, e1, e2, h3⟩ => ?_
      subst e1 e2
      exact ⟨⟨_, rfl⟩, x.1, x.2, rfl, h3⟩
    rintro xs m ⟨S6, rfl⟩ hsl hxs
    obtain ⟨rows, rfl, hrows⟩ := of_all hxs
    simp at hsl
    refine nx (r := r ++ [_]) (by omega) (by omega) fun z S7 z0 z1 => ?_
    obtain ⟨last, hlast, hl2, hl3⟩ : ∃ last : Str × List Int, atI [D.tup [.str "back"], D.tup [.str "go", .int 0]] z = some (rowD last) ∧ RowOk (1 + c) (1 + b) last ∧ (last.1 = "go" ∨ last.1 = "back") := by
      have : z = 0 ∨ z = 1 := by omega
      rcases this with rfl | rfl
      · exact ⟨(("back" : Str), []), by simp [rowD], ⟨[], by simp [forms], .nil⟩, .inr rfl⟩
      · exact ⟨(("go" : Str), [0]), by simp [rowD], ⟨[.r], by simp [forms], .cons ⟨by omega, by simp only [So.most]; omega⟩ .nil⟩, .inl rfl⟩
    have hrs : ((rows.map rowD ++ [rowD last]).length : Int) = 1 + c := by simp; omega
    simp [hlast]
    refine (b_lst (xs := rows.map rowD) (ys := [rowD last]) rfl rfl).mpr ⟨by simp; omega, ?_⟩
    refine s_last (s_exp ?_)
    simp
    refine ⟨k_app fm_get, ?_⟩
    refine nx (r := r ++ [_]) (by omega) (by omega) fun o S8 o0 o1 => ?_
    refine (m_fm (o, rows ++ [last]) (by simp [routD])).mpr ⟨by simp; omega, ?_⟩
    refine (hN _ _ _).mpr ⟨S8, l ++ [(o, rows ++ [last])], _, _, _, _, rfl, rfl, by simp; omega, fun x hx => ?_⟩
    rcases List.mem_append.mp hx with e | e
    · exact h2 x e
    · rw [List.mem_singleton.mp e]
      refine ⟨⟨o0, o1⟩, ⟨by simp, by simp; omega⟩, fun y hy => ?_, last, by simp, hl3⟩
      have e : (((rows ++ [last]).length : Nat) : Int) = 1 + c := by simp; omega
      rw [e]
      rcases List.mem_append.mp hy with e | e
      · exact hrows y e
      · rw [List.mem_singleton.mp e]; exact hl2
  intro e mm hn
  obtain ⟨S4, l, e3, e6, e7, e8, rfl, rfl, h1, h2⟩ := (hN _ _ _).mp hn
  simp at h1
  refine s_last (s_ret ?_)
  simp
  refine (l_tupP (xs := l.map routD) (by simp only [getL, fm_get])).mpr ?_
  show Ok (settle _ (progD (hs, l)) (hm S4 r ++ [_])) Z
  rw [settle_drop (by simp [hm]) (und_prog _ (hs, l)) (und_hm (by simp [hm]) (by rw [hm_len]; exact hr))]
  exact (hZ _ _).mpr ⟨S4, (hs, l), rfl, rfl, ⟨by simp; omega, by simp; omega⟩, hhs, ⟨by simp; omega, by simp; omega⟩, fun rt h => by
    have := h2 rt h
    simp only
    rw [show ((l.length : Nat) : Int) = 1 + b by omega]
    exact this⟩
end Mi

set_option Elab.async false
set_option linter.all false
set_option maxRecDepth 100000
set_option maxHeartbeats 4000000
namespace Mi
open PySem L2 TL
theorem norow {n k nu : Int} : ∀ {ps : List Int} {f : List So}, .r ∉ f → All2 (fun p (s : So) => 0 ≤ p ∧ p < s.most n nu) ps f → All2 (fun p (s : So) => 0 ≤ p ∧ p < s.most k nu) ps f
  | _, _, _, .nil => .nil
  | _, s :: _, hr, .cons h r => by
    refine .cons ⟨h.1, ?_⟩ (norow (fun e => hr (List.mem_cons_of_mem _ e)) r)
    have := h.2
    cases s <;> first | exact this | exact absurd List.mem_cons_self hr
theorem row_cases {n nu : Int} {x : Str × List Int} (h : RowOk n nu x) : (∃ g, x = (("go" : Str), [g]) ∧ 0 ≤ g ∧ g < n) ∨ (∃ b g, x = (("zero" : Str), [b, g]) ∧ (0 ≤ b ∧ b < 6) ∧ 0 ≤ g ∧ g < n) ∨ (x.1 ≠ "go" ∧ x.1 ≠ "zero" ∧ PyData.strOk x.1 = true ∧ ∀ k, RowOk k nu x) := by
  obtain ⟨w, ps⟩ := x
  obtain ⟨f, hf, h⟩ := h
  simp only at hf h
  have key : (w = "go" ∧ f = [.r]) ∨ (w = "zero" ∧ f = [.b, .r]) ∨ (w ≠ "go" ∧ w ≠ "zero" ∧ PyData.strOk w = true ∧ .r ∉ f) := by
    have hf2 := hf
    simp [forms] at hf2
    rcases hf2 with ⟨rfl, rfl⟩ | ⟨rfl, rfl⟩ | ⟨rfl, rfl⟩ | ⟨rfl, rfl⟩ | ⟨rfl, rfl⟩ | ⟨rfl, rfl⟩ | ⟨rfl, rfl⟩ | ⟨rfl, rfl⟩ | ⟨rfl, rfl⟩ | ⟨rfl, rfl⟩ | ⟨rfl, rfl⟩ <;>
      first | exact .inl ⟨rfl, rfl⟩ | exact .inr (.inl ⟨rfl, rfl⟩) | exact .inr (.inr ⟨by decide +kernel, by decide +kernel, by decide +kernel, by simp⟩)
  rcases key with ⟨rfl, rfl⟩ | ⟨rfl, rfl⟩ | ⟨h1, h2, h3, h4⟩
  · match h with
    | .cons (a := a) h1 .nil => exact .inl ⟨a, rfl, h1⟩
  · match h with
    | .cons (a := a) h1 (.cons (a := b) h2 .nil) => exact .inr (.inl ⟨a, b, rfl, h1, h2⟩)
  · exact .inr (.inr ⟨h1, h2, h3, fun k => ⟨f, hf, norow h4 h⟩⟩)
/-- a row whose goal is brought within so many rows -/
def clip (many : Int) (x : Str × List Int) : Str × List Int :=
  if x.1 = "go" ∨ x.1 = "zero" then (x.1, x.2.dropLast ++ [if many - 1 < x.2.getLastD 0 then many - 1 else x.2.getLastD 0]) else x
theorem clip_fst (many : Int) (x : Str × List Int) : (clip many x).1 = x.1 := by unfold clip; split <;> rfl
theorem clip_ok {n nu many : Int} {x : Str × List Int} (h : RowOk n nu x) (hm : 0 < many) : RowOk many nu (clip many x) := by
  rcases row_cases h with ⟨g, rfl, g0, g1⟩ | ⟨b, g, rfl, b0, g0, g1⟩ | ⟨h1, h2, _, h3⟩
  · refine ⟨[.r], by simp [clip, forms], ?_⟩
    simp only [clip, true_or, if_true, List.dropLast, List.nil_append]
    refine .cons ?_ .nil
    simp only [So.most]
    simp
    constructor <;> split <;> omega
  · refine ⟨[.b, .r], by simp [clip, forms], ?_⟩
    simp only [clip, or_true, if_true, List.dropLast, List.nil_append]
    refine .cons b0 (.cons ?_ .nil)
    simp only [So.most]
    simp
    constructor <;> split <;> omega
  · unfold clip
    rw [if_neg (by simp [h1, h2])]
    exact h3 many
theorem odd_body {n nu many : Int} {x : Str × List Int} (h : RowOk n nu x) (e : EnvD) (hl : e.length = 15) (he : e[13]? = some (some (.int many))) (m : Mem) :
    lcBody g__law_odd (.ifx (.cmp .In (.idx (.var 14 "_law_one") (.cst (.int 0))) (.tup (.cons (.cst (.str "go")) (.cons (.cst (.str "zero")) .nil)))) (.bin .Add (.sli (.var 14 "_law_one") .no (.yes (.neg (.cst (.int 1))))) (.tup (.cons (.blt .min (.cons (.idx (.var 14 "_law_one") (.neg (.cst (.int 1)))) (.cons (.bin .Sub (.var 13 "_law_many") (.cst (.int 1))) .nil))) .nil))) (.var 14 "_law_one")) (.nam 14 "_law_one") .nil (wipeE e [14]) (rowD x) m = .ok (some (rowD (clip many x))) m := by
  refine ok_same (lc_body rfl ?_)
  have h14 : ∀ d : D, ((wipeE e [14]).set 14 (some d))[14]? = some (some d) := fun d => by
    rw [List.getElem?_set_self (by simp [wipeE, hl])]
  have h13 : (wipeE e [14])[13]? = some (some (.int many)) := by
    simp only [wipeE]
    rw [List.getElem?_set_ne (by omega)]
    exact he
  have hin : ∀ w : Str, PyData.strOk w = true → ∀ m, inD g__law_odd (.str w) (.tup [.str "go", .str "zero"]) m = some (decide (w ∈ (["go", "zero"] : List Str))) := fun w hw m => in_strs (l := ["go", "zero"]) hw (by decide +kernel)
  have last2 : ∀ a b : D, atI [a, b] (-1) = some b := fun _ _ => rfl
  have last3 : ∀ a b c : D, atI [a, b, c] (-1) = some c := fun _ _ _ => rfl
  have cut2 : ∀ a b : D, cutD [a, b] none (some (-1)) = [a] := fun _ _ => rfl
  have cut3 : ∀ a b c : D, cutD [a, b, c] none (some (-1)) = [a, b] := fun _ _ _ => rfl
  rcases row_cases h with ⟨g, rfl, g0, g1⟩ | ⟨b, g, rfl, b0, g0, g1⟩ | ⟨h1, h2, h3, h4⟩
  · simp [h14, h13, rowD, hin "go" (by decide +kernel), last2, cut2, clip]
  · simp [h14, h13, rowD, hin "zero" (by decide +kernel), last3, cut3, clip]
  · simp [h14, rowD, hin x.1 h3, h1, h2, clip]
theorem idx_row {G : Gx} {m : Mem} {Q : D → Mem → Prop} {x : Str × List Int} : Ok (idxD G (rowD x) (.int 0) m) Q ↔ Q (.str x.1) m := by
  unfold rowD
  simp
theorem odd_ok (S : Hs) (r : Mem) (p : List (List Int × Int × List Int) × List (Int × List (Str × List Int))) (turns : Int) (hp : ProgOk p) (t0 : 0 ≤ turns) (t1 : turns ≤ 1000) :
    Ok (f__law_odd [.ptr 1, progD p, .int turns] (hm S r)) fun d m => ∃ S' p', d = progD p' ∧ m = hm S' r ∧ ProgOk p' := by
  obtain ⟨Z, hZ⟩ : ∃ Z : D → Mem → Prop, ∀ d m, Z d m ↔ (∃ S' p, d = progD p ∧ m = hm S' r ∧ ProgOk p) := ⟨_, fun _ _ => Iff.rfl⟩
  refine Ok.mono (Q := Z) ?_ fun d m h => (hZ d m).mp h
  obtain ⟨hs, rts0⟩ := p
  refine def_go rfl ?_
  refine s_cons (s_asg ?_)
  simp [progD]
  refine ⟨_, rfl, ?_⟩
  obtain ⟨N, hN⟩ : ∃ N : EnvD → Mem → Prop, ∀ e mm, N e mm ↔ (∃ S' rts e5 e6 e7 e8 e9 e10 e11 e12 e13 e14, mm = hm S' r ∧ e = [some (.ptr 1), some (progD (hs, rts0)), some (.int turns), some (.tup (hs.map houseD)), some (.tup (rts.map routD)), e5, e6, e7, e8, e9, e10, e11, e12, e13, e14] ∧ ProgOk (hs, rts)) := ⟨_, fun _ _ => Iff.rfl⟩
  refine s_cons (s_for (fun ds e mm => N e mm) ?_ ?_ ?_)
  · simp
    refine ⟨⟨_, rng_eq (by omega) (by omega) (by omega) (by omega)⟩, ?_⟩
    exact (hN _ _).mpr ⟨S, rts0, _, _, _, _, _, _, _, _, _, _, rfl, rfl, hp⟩
  · intro d ds e mm hn
    obtain ⟨S1, rts, e5, e6, e7, e8, e9, e10, e11, e12, e13, e14, rfl, rfl, hp⟩ := (hN _ _).mp hn
    obtain ⟨hl, hh, hrl, hr⟩ := hp
    simp only at hl hh hrl hr
    refine ⟨_, rfl, ?_⟩
    refine s_cons (s_set ?_)
    simp
    refine nx (by omega) (by omega) fun k S2 k0 k1 => ?_
    obtain ⟨rt, hrt, hrm⟩ := atI_map (l := rts) (f := routD) k0 k1
    obtain ⟨hrt1, hrt2, hrt3, hrt4⟩ := hr rt hrm
    refine s_cons (s_asg ?_)
    simp [hrt, routD]
    refine ⟨_, rfl, ?_⟩
    refine s_cons (s_set ?_)
    simp
    refine nx (by omega) (by omega) fun at_ S3 a0 a1 => ?_
    refine s_cons (s_set ?_)
    simp
    refine Ok.mono (wild_row_ok S3 r rt.2.length rts.length (by omega) (by omega) (by omega) (by omega)) fun d m ⟨S4, x, e1, e2, hx⟩ => ?_
    subst e1 e2
    refine s_cons (s_set ?_)
    simp
    refine nx (by omega) (by omega) fun sort S5 s0 s1 => ?_
    refine s_cons (s_set ?_)
    simp
    rw [cut_toI _ a0, cut_fromI _ a0, cut_fromI _ (by omega)]
    simp only [← List.map_take, ← List.map_drop]
    have l1 : (rt.2.take at_.toNat).length ≤ 32 := by rw [List.length_take]; omega
    have l2 : ∀ n, (rt.2.drop n).length ≤ 32 := fun n => by rw [List.length_drop]; omega
    have l3 := l2 at_.toNat
    have l4 := l2 (at_ + 1).toNat
    simp only [List.length_map]
    refine ⟨by omega, by omega, by omega, by omega, by omega, ?_⟩
    obtain ⟨some_, hsome, hsl, hsm⟩ : ∃ some_ : List (Str × List Int), atI [D.tup ((rt.2.take at_.toNat).map rowD ++ rowD x :: (rt.2.drop (at_ + 1).toNat).map rowD), D.tup ((rt.2.take at_.toNat).map rowD ++ rowD x :: (rt.2.drop at_.toNat).map rowD), D.tup ((rt.2.take at_.toNat).map rowD ++ (rt.2.drop (at_ + 1).toNat).map rowD), D.tup (rt.2.map rowD)] sort = some (.tup (some_.map rowD)) ∧
        some_.length ≤ 100 ∧ ∀ y ∈ some_, RowOk rt.2.length rts.length y := by
      have : sort = 0 ∨ sort = 1 ∨ sort = 2 ∨ sort = 3 := by omega
      have hm1 : ∀ y ∈ rt.2.take at_.toNat, RowOk rt.2.length rts.length y := fun y hy => hrt3 y (List.mem_of_mem_take hy)
      have hm2 : ∀ n, ∀ y ∈ rt.2.drop n, RowOk rt.2.length rts.length y := fun n y hy => hrt3 y (List.mem_of_mem_drop hy)
      rcases this with rfl | rfl | rfl | rfl
      · refine ⟨rt.2.take at_.toNat ++ x :: rt.2.drop (at_ + 1).toNat, by rw [at0]; simp, by simp only [List.length_append, List.length_cons]; omega, fun y hy => ?_⟩
        rcases List.mem_append.mp hy with e | e
        · exact hm1 y e
        · rcases List.mem_cons.mp e with e | e
          · rw [e]; exact hx
          · exact hm2 _ y e
      · refine ⟨rt.2.take at_.toNat ++ x :: rt.2.drop at_.toNat, by rw [at1]; simp, by simp only [List.length_append, List.length_cons]; omega, fun y hy => ?_⟩
        rcases List.mem_append.mp hy with e | e
        · exact hm1 y e
        · rcases List.mem_cons.mp e with e | e
          · rw [e]; exact hx
          · exact hm2 _ y e
      · refine ⟨rt.2.take at_.toNat ++ rt.2.drop (at_ + 1).toNat, by rw [at2]; simp, by simp only [List.length_append]; omega, fun y hy => ?_⟩
        rcases List.mem_append.mp hy with e | e
        · exact hm1 y e
        · exact hm2 _ y e
      · exact ⟨rt.2, by rw [at3], by omega, hrt3⟩
    simp only [List.map_take, List.map_drop] at hsome
    refine s_cons (s_set ?_)
    simp
    refine ⟨_, hsome, ?_⟩
    refine s_cons (s_set ?_)
    simp
    refine s_cons (s_set ?_)
    simp
    refine lc_mapF (g := fun y => rowD (clip some_.length y)) (fun y hy => ?_) (by rw [line_eq]; omega) ?_
    · exact odd_body (hsm y hy) _ rfl rfl _
    obtain ⟨N2, hN2⟩ : ∃ N2 : EnvD → Mem → Prop, ∀ e mm, N2 e mm ↔ (∃ (S' : Hs) (h' : Int), mm = hm S' r ∧ (0 ≤ h' ∧ h' < hs.length) ∧ e = [some (.ptr 1), some (progD (hs, rts0)), some (.int turns), some (.tup (hs.map houseD)), some (.tup (rts.map routD)), some d, some (.int k), some (.int h'), some (.tup (rt.2.map rowD)), some (.int at_), some (rowD x), some (.int sort), some (.tup (some_.map fun y => rowD (clip some_.length y))), some (.int some_.length), e14]) := ⟨_, fun _ _ => Iff.rfl⟩
    refine s_cons (s_cut N2 (s_ite ?_) ?_)
    · by_cases h3 : sort = 3
      · subst h3
        by_cases h4 : 1 < (hs.length : Int)
        · have h4' : 1 < hs.length := by omega
          simp [h4, h4']
          refine .inr (s_last (s_set ?_))
          simp
          refine nx (by omega) (by omega) fun h' S6 h'0 h'1 => ?_
          exact (hN2 _ _).mpr ⟨S6, h', rfl, ⟨h'0, h'1⟩, rfl⟩
        · have h4' : ¬ 1 < hs.length := by omega
          simp [h4, h4']
          exact ⟨by omega, s_nil ((hN2 _ _).mpr ⟨S5, rt.1, rfl, hrt1, rfl⟩)⟩
      · simp [h3]
        exact s_nil ((hN2 _ _).mpr ⟨S5, rt.1, rfl, hrt1, rfl⟩)
    intro e mm hn2
    obtain ⟨S6, h', rfl, hh', rfl⟩ := (hN2 _ _).mp hn2
    have hp0 : ProgOk (hs, rts) := ⟨hl, hh, hrl, hr⟩
    refine s_last (s_ite ?_)
    by_cases hm0 : some_ = []
    · simp [hm0]
      exact s_nil ((hN _ _).mpr ⟨S6, rts, _, _, _, _, _, _, _, _, _, _, rfl, rfl, hp0⟩)
    have hm1 : 0 < some_.length := List.length_pos_iff.mpr hm0
    by_cases hm33 : some_.length < 33
    · have hne : (some_.map fun y => rowD (clip some_.length y)) ≠ [] := by simpa using hm0
      have hlast : atI (some_.map fun y => rowD (clip some_.length y)) (-1) = some (rowD (clip some_.length (some_.getLast hm0))) := by
        rw [atI_last hne, List.getLast_map]
      have hlm := List.getLast_mem hm0
      have hlr := hsm _ hlm
      have hstr : PyData.strOk (some_.getLast hm0).1 = true := by
        rcases row_cases hlr with ⟨g, e, _⟩ | ⟨b, g, e, _⟩ | ⟨_, _, h3, _⟩
        · rw [e]; show PyData.strOk "go" = true; decide +kernel
        · rw [e]; show PyData.strOk "zero" = true; decide +kernel
        · exact h3
      have hin : ∀ m, inD g__law_odd (.str (some_.getLast hm0).1) (.tup [.str "go", .str "back"]) m = some (decide ((some_.getLast hm0).1 ∈ (["go", "back"] : List Str))) := fun m => in_strs (l := ["go", "back"]) hstr (by decide +kernel)
      have hm33' : (some_.length : Int) < 33 := by omega
      by_cases hgb : (some_.getLast hm0).1 ∈ (["go", "back"] : List Str)
      · simp only [hgb, decide_true] at hin
        simp [hm1, hm33', hm33, hlast, idx_row, clip_fst, hin]
        refine s_last (s_set ?_)
        simp
        rw [cut_toI _ k0, cut_fromI _ (by omega)]
        have l5 : ((rts.map routD).take k.toNat).length ≤ 6 := by rw [List.length_take, List.length_map]; omega
        have l6 : ((rts.map routD).drop (k + 1).toNat).length ≤ 6 := by rw [List.length_drop, List.length_map]; omega
        refine ⟨by omega, by omega, ?_⟩
        have hE : (rts.map routD).take k.toNat ++ D.tup [.int h', .tup (some_.map fun y => rowD (clip some_.length y))] :: (rts.map routD).drop (k + 1).toNat = (rts.take k.toNat ++ (h', some_.map (clip some_.length)) :: rts.drop (k + 1).toNat).map routD := by
          simp [routD, Function.comp_def]
        rw [hE]
        refine (hN _ _).mpr ⟨S6, rts.take k.toNat ++ (h', some_.map (clip some_.length)) :: rts.drop (k + 1).toNat, _, _, _, _, _, _, _, _, _, _, rfl, rfl, hl, hh, ?_, ?_⟩
        · simp only [List.length_append, List.length_cons, List.length_take, List.length_drop]
          omega
        · have hlen : (rts.take k.toNat ++ (h', some_.map (clip some_.length)) :: rts.drop (k + 1).toNat).length = rts.length := by
            simp only [List.length_append, List.length_cons, List.length_take, List.length_drop]
            omega
          intro rt' hrt'
          simp only at hrt' ⊢
          rw [hlen]
          rcases List.mem_append.mp hrt' with e | e
          · exact hr rt' (List.mem_of_mem_take e)
          · rcases List.mem_cons.mp e with e | e
            · subst e
              refine ⟨hh', ⟨by simp; omega, by simp; omega⟩, fun y hy => ?_, clip some_.length (some_.getLast hm0), ?_, ?_⟩
              · obtain ⟨z, hz, rfl⟩ := List.mem_map.mp hy
                simp only [List.length_map]
                exact clip_ok (hsm z hz) (by omega)
              · simp only [List.getLast?_map, List.getLast?_eq_some_getLast hm0]
                rfl
              · rw [clip_fst]
                simpa using hgb
            · exact hr rt' (List.mem_of_mem_drop e)
      · simp only [hgb, decide_false] at hin
        simp [hm1, hm33', hm33, hlast, idx_row, clip_fst, hin]
        exact s_nil ((hN _ _).mpr ⟨S6, rts, _, _, _, _, _, _, _, _, _, _, rfl, rfl, hp0⟩)
    · have hm33' : ¬ (some_.length : Int) < 33 := by omega
      simp [hm1, hm33', hm33]
      exact s_nil ((hN _ _).mpr ⟨S6, rts, _, _, _, _, _, _, _, _, _, _, rfl, rfl, hp0⟩)
  · intro e mm hn
    obtain ⟨S1, rts, e5, e6, e7, e8, e9, e10, e11, e12, e13, e14, rfl, rfl, hp⟩ := (hN _ _).mp hn
    refine s_last (s_ret ?_)
    simp
    exact (hZ _ _).mpr ⟨S1, (hs, rts), rfl, rfl, hp⟩
end Mi

set_option Elab.async false
set_option linter.all false
set_option maxRecDepth 100000
set_option maxHeartbeats 4000000
namespace Mi
open PySem L2 TL
theorem any_ok (S : Hs) (r : Mem) (hr : r.all (Cell.und (r.length + 2)) = true) : Ok (f__law_any [.ptr 1] (hm S r)) fun d m => ∃ S' p, d = progD p ∧ m = hm S' r ∧ ProgOk p := by
  obtain ⟨Z, hZ⟩ : ∃ Z : D → Mem → Prop, ∀ d m, Z d m ↔ (∃ S' p, d = progD p ∧ m = hm S' r ∧ ProgOk p) := ⟨_, fun _ _ => Iff.rfl⟩
  refine Ok.mono (Q := Z) ?_ fun d m h => (hZ d m).mp h
  refine def_go rfl ?_
  refine s_cons (s_set ?_)
  simp
  refine nx (by omega) (by omega) fun t S1 t0 t1 => ?_
  refine s_cons (s_ite ?_)
  by_cases h4 : t = 4
  · subst h4
    simp
    refine s_last (s_ret ?_)
    simp
    refine nx (by omega) (by omega) fun a S2 a0 a1 => ?_
    obtain ⟨mm, hm1, hm2⟩ := atI_map (l := ([6, 20, 32] : List Int)) (f := D.int) a0 (by simpa using a1)
    have hmm : 0 < mm ∧ mm ≤ 32 := by simp at hm2; omega
    simp only [List.map_cons, List.map_nil] at hm1
    refine i_lst'.mpr ⟨_, hm1, ?_⟩
    refine Ok.mono (wild_ok S2 r mm hr hmm.1 hmm.2) fun d m ⟨S3, p, e1, e2, h3⟩ => ?_
    subst e1 e2
    exact (settle_hm rfl).mpr ((hZ _ _).mpr ⟨S3, p, rfl, rfl, h3⟩)
  simp [h4]
  refine s_next ?_
  refine s_cons (s_set ?_)
  simp
  refine Ok.mono (program_ok S1 r 6 hr (by omega) (by omega)) fun d m ⟨S2, p, e1, e2, h3⟩ => ?_
  subst e1 e2
  refine s_last (s_ret ?_)
  by_cases h0 : t = 0
  · subst h0
    simp
    exact (hZ _ _).mpr ⟨S2, p, rfl, rfl, h3⟩
  · simp [h0]
    refine nx (by omega) (by omega) fun a S3 a0 a1 => ?_
    refine b_add.mpr ?_
    refine Ok.mono (odd_ok S3 r p (1 + a) h3 (by omega) (by omega)) fun d m ⟨S4, p', e1, e2, h4⟩ => ?_
    subst e1 e2
    exact (settle_hm rfl).mpr ((hZ _ _).mpr ⟨S4, p', rfl, rfl, h4⟩)
end Mi

set_option Elab.async false
set_option linter.all false
set_option maxRecDepth 100000
set_option maxHeartbeats 4000000
namespace Mi
open PySem L2 TL
/-! ### two values alike, lists that may change among them -/
def Like (m : Mem) : Nat → D → D → Prop
  | 0, _, _ => False
  | n + 1, x, y => (∃ i, x = .int i ∧ y = .int i) ∨ (∃ s, x = .str s ∧ y = .str s) ∨ (∃ b, x = .bl b ∧ y = .bl b) ∨ (x = .non ∧ y = .non) ∨
      (∃ xs ys, x = .tup xs ∧ y = .tup ys ∧ xs.length < 1000000 ∧ All2 (Like m n) xs ys) ∨ (∃ xs ys, getL m x = some xs ∧ getL m y = some ys ∧ xs.length < 1000000 ∧ All2 (Like m n) xs ys)
theorem ty_getL {m : Mem} {x : D} {xs : List D} (h : getL m x = some xs) : tyD m x = some .lst := by
  rcases getL_of h with rfl | ⟨p, rfl, e⟩
  · rfl
  · simp only [tyD, e]
theorem len_getL {m : Mem} {x : D} {xs : List D} (h : getL m x = some xs) : lenD x m = some xs.length := by
  rcases getL_of h with rfl | ⟨p, rfl, e⟩
  · rfl
  · simp only [lenD, h]
theorem All2.at {α β : Type} {R : α → β → Prop} : ∀ {l : List α} {k : List β}, All2 R l k → ∀ {i : Nat} {a : α} {b : β}, l[i]? = some a → k[i]? = some b → R a b
  | _, _, .nil, _, _, _, h, _ => by simp at h
  | _, _, .cons h r, 0, _, _, h1, h2 => by
    simp at h1 h2
    subst h1 h2
    exact h
  | _, _, .cons h r, i + 1, _, _, h1, h2 => r.at (i := i) (by simpa using h1) (by simpa using h2)
theorem All2.map2 {α β γ : Type} {R : β → γ → Prop} {f : α → β} {g : α → γ} : ∀ {l : List α}, (∀ a ∈ l, R (f a) (g a)) → All2 R (l.map f) (l.map g)
  | [], _ => .nil
  | a :: l, h => .cons (h a List.mem_cons_self) (All2.map2 fun b hb => h b (List.mem_cons_of_mem _ hb))
theorem like_eq : ∀ (n : Nat) (x y : D) (m : Mem), Like m n x y → n__law_alike n [x, y] m = .ok (.bl true) m
  | 0, _, _, _, h => h.elim
  | n + 1, x, y, m, h => by
    show r__law_alike (n__law_alike n) [x, y] m = _
    apply ok_same
    refine def_go rfl ?_
    refine s_cons (s_ite ?_)
    rcases h with ⟨i, rfl, rfl⟩ | ⟨z, rfl, rfl⟩ | ⟨b, rfl, rfl⟩ | ⟨rfl, rfl⟩ | ⟨xs, ys, rfl, rfl, hl, hx⟩ | ⟨xs, ys, h1, h2, hl, hx⟩
    · simp [isaD]
      refine s_next (s_cons (s_ite ?_))
      simp [isNon]
      refine s_next (s_cons (s_ite ?_))
      simp [isaD]
      refine s_next (s_cons (s_ite ?_))
      simp [isaD]
      refine s_next (s_last (s_ret ?_))
      simp [isaD, settle_at]
    · simp [isaD]
      refine s_next (s_cons (s_ite ?_))
      simp [isNon]
      refine s_next (s_cons (s_ite ?_))
      simp [isaD]
      refine s_last (s_ret ?_)
      simp [isaD, settle_at]
    · simp [isaD]
      refine s_next (s_cons (s_ite ?_))
      simp [isNon]
      refine s_next (s_cons (s_ite ?_))
      simp [isaD]
      refine s_next (s_cons (s_ite ?_))
      simp [isaD]
      refine s_last (s_ret ?_)
      simp [isaD, settle_at]
    · simp [isaD]
      refine s_next (s_cons (s_ite ?_))
      simp [isNon]
      refine s_last (s_ret ?_)
      simp [isNon, settle_at]
    · have hle := hx.len
      simp [isaD]
      refine s_cons (s_ite ?_)
      simp [isaD]
      refine s_next (s_cons (s_ite ?_))
      simp [hle]
      refine s_next (s_last (s_ret ?_))
      simp
      refine ⟨_, rng_eq (by omega) (by omega) (by omega) (by omega), ?_⟩
      refine lc_none (fun d hd => ?_) ?_
      · simp at hd
        obtain ⟨k, hk, rfl⟩ := hd
        have hk2 : k < xs.length := by omega
        refine ok_same (lc_body rfl ?_)
        have hr := like_eq n _ _ m (hx.at (List.getElem?_eq_getElem hk2) (List.getElem?_eq_getElem hk))
        simp [wipeE, atI_nat, hk, hk2, hr]
      simp [settle_at]
    · have hle := hx.len
      simp [isaD, ty_getL h1, ty_getL h2]
      refine s_cons (s_ite ?_)
      simp [isaD, ty_getL h1, ty_getL h2]
      refine s_next (s_cons (s_ite ?_))
      simp [hle, len_getL h1, len_getL h2]
      refine s_next (s_last (s_ret ?_))
      simp [len_getL h2]
      refine ⟨_, rng_eq (by omega) (by omega) (by omega) (by omega), ?_⟩
      refine lc_none (fun d hd => ?_) ?_
      · simp at hd
        obtain ⟨k, hk, rfl⟩ := hd
        have hk2 : k < xs.length := by omega
        refine ok_same (lc_body rfl ?_)
        have hr := like_eq n _ _ m (hx.at (List.getElem?_eq_getElem hk2) (List.getElem?_eq_getElem hk))
        simp [wipeE, i_lst h1, i_lst h2, atI_nat, hk, hk2, hr]
      simp [settle_at]
end Mi

set_option Elab.async false
set_option linter.all false
set_option maxRecDepth 100000
set_option maxHeartbeats 4000000
namespace Mi
open PySem L2 TL
/-! ### programs, plainly -/
abbrev House := List Int × Int × List Int
abbrev Row := Str × List Int
abbrev Prog := List House × List (Int × List Row)
def rtOf (p : Prog) (k : Int) : Int × List Row := p.2.getD k.toNat (0, [])
def hoOf (p : Prog) (k : Int) : House := p.1.getD (rtOf p k).1.toNat ([], 0, [])
def rowOf (p : Prog) (k a : Int) : Row := (rtOf p k).2.getD a.toNat ("back", [])
def bg (l : List Int) (i : Int) : Int := l.getD i.toNat 0
def bp (l : List Int) (i x : Int) : List Int := l.set i.toNat x
def lst0 (l : List Int) : Int := l.getLastD 0
def six : List Int := [0, 1, 2, 3, 4, 5]
@[simp] theorem str_inj {a b : String} : Str.ofString a = Str.ofString b ↔ a = b := by
  constructor
  · intro h
    rw [Str.ofString_eq_toList, Str.ofString_eq_toList] at h
    have h2 : a.toList.map Char.toNat = b.toList.map Char.toNat := by simpa using h
    have inj : ∀ l k : List Char, l.map Char.toNat = k.map Char.toNat → l = k := by
      intro l
      induction l with
      | nil => intro k h; cases k with
        | nil => rfl
        | cons _ _ => simp at h
      | cons c l ih => intro k h; cases k with
        | nil => simp at h
        | cons d k =>
          simp only [List.map_cons, List.cons.injEq] at h
          rw [ih k h.2, Char.toNat_inj.mp h.1]
    exact String.toList_inj.mp (inj _ _ h2)
  · intro h; rw [h]
inductive Rw (n nu : Int) : Row → Prop
  | put {a b : Int} : 0 ≤ a → a < 6 → 0 ≤ b → b < 1000 → Rw n nu ("put", [a, b])
  | move {a b : Int} : 0 ≤ a → a < 6 → 0 ≤ b → b < 6 → Rw n nu ("move", [a, b])
  | add {a b c : Int} : 0 ≤ a → a < 6 → 0 ≤ b → b < 6 → 0 ≤ c → c < 6 → Rw n nu ("add", [a, b, c])
  | take {a b c : Int} : 0 ≤ a → a < 6 → 0 ≤ b → b < 6 → 0 ≤ c → c < 6 → Rw n nu ("take", [a, b, c])
  | push {a : Int} : 0 ≤ a → a < 6 → Rw n nu ("push", [a])
  | pop {a : Int} : 0 ≤ a → a < 6 → Rw n nu ("pop", [a])
  | say {a : Int} : 0 ≤ a → a < 6 → Rw n nu ("say", [a])
  | zero {a g : Int} : 0 ≤ a → a < 6 → 0 ≤ g → g < n → Rw n nu ("zero", [a, g])
  | go {g : Int} : 0 ≤ g → g < n → Rw n nu ("go", [g])
  | call {u : Int} : 0 ≤ u → u < nu → Rw n nu ("call", [u])
  | back : Rw n nu ("back", [])
theorem row_rw {n nu : Int} {x : Row} (h : RowOk n nu x) : Rw n nu x := by
  obtain ⟨w, ps⟩ := x
  obtain ⟨f, hf, h⟩ := h
  simp only at hf h
  simp [forms] at hf
  rcases hf with ⟨rfl, rfl⟩ | ⟨rfl, rfl⟩ | ⟨rfl, rfl⟩ | ⟨rfl, rfl⟩ | ⟨rfl, rfl⟩ | ⟨rfl, rfl⟩ | ⟨rfl, rfl⟩ | ⟨rfl, rfl⟩ | ⟨rfl, rfl⟩ | ⟨rfl, rfl⟩ | ⟨rfl, rfl⟩
  · match h with | .cons a (.cons b .nil) => exact .put a.1 a.2 b.1 b.2
  · match h with | .cons a (.cons b .nil) => exact .move a.1 a.2 b.1 b.2
  · match h with | .cons a (.cons b (.cons c .nil)) => exact .add a.1 a.2 b.1 b.2 c.1 c.2
  · match h with | .cons a (.cons b (.cons c .nil)) => exact .take a.1 a.2 b.1 b.2 c.1 c.2
  · match h with | .cons a .nil => exact .push a.1 a.2
  · match h with | .cons a .nil => exact .pop a.1 a.2
  · match h with | .cons a .nil => exact .say a.1 a.2
  · match h with | .cons a (.cons b .nil) => exact .zero a.1 a.2 b.1 b.2
  · match h with | .cons a .nil => exact .go a.1 a.2
  · match h with | .cons a .nil => exact .call a.1 a.2
  · match h with | .nil => exact .back
theorem m_pop {p : Nat} {xs : List D} {m : Mem} {Q : D → Mem → Prop} (h : m[p]? = some (.lst xs)) : Ok (mthD (.ptr p) .pop [] m) Q ↔ ∃ d, xs[xs.length - 1]? = some d ∧ Q d (m.set p (.lst xs.dropLast)) := by
  simp only [mthD, h]
  cases xs[xs.length - 1]? with
  | none => simp [ok_stuck]
  | some d => simp [ok_ok]
theorem last_int {l : List Int} (h : l ≠ []) : (l.map D.int)[(l.map D.int).length - 1]? = some (.int (lst0 l)) := by
  rw [List.getElem?_map, List.length_map]
  have hl : 0 < l.length := List.length_pos_iff.mpr h
  rw [List.getElem?_eq_getElem (by omega), lst0]
  rw [List.getLastD_eq_getLast?, List.getLast?_eq_some_getLast h, List.getLast_eq_getElem]
  rfl
section
variable {p : Prog}
theorem house_of_eq {k : Int} (hp : ProgOk p) (k0 : 0 ≤ k) (k1 : k < p.2.length) (mm : Mem) : f_house_of [progD p, .int k] mm = .ok (houseD (hoOf p k)) mm := by
  obtain ⟨hs, rs⟩ := p
  obtain ⟨_, _, _, hr⟩ := hp
  simp only at hr k1
  have hk : k.toNat < rs.length := by omega
  have e1 : rtOf (hs, rs) k = rs[k.toNat] := by simp [rtOf, List.getD_eq_getElem?_getD, hk]
  have hm := hr rs[k.toNat] (List.getElem_mem hk)
  have hh : (rs[k.toNat].1).toNat < hs.length := by have := hm.1; omega
  have e2 : hoOf (hs, rs) k = hs[(rs[k.toNat].1).toNat] := by simp [hoOf, e1, List.getD_eq_getElem?_getD, hh]
  have a1 : atI (rs.map routD) k = some (routD rs[k.toNat]) := by
    obtain ⟨d, e, g⟩ := atI_get (l := rs.map routD) k0 (by simpa using k1)
    rw [e, ← g, List.getElem?_map, List.getElem?_eq_getElem hk]
    rfl
  have a2 : atI (hs.map houseD) rs[k.toNat].1 = some (houseD hs[(rs[k.toNat].1).toNat]) := by
    obtain ⟨d, e, g⟩ := atI_get (l := hs.map houseD) hm.1.1 (by simpa using hm.1.2)
    rw [e, ← g, List.getElem?_map, List.getElem?_eq_getElem hh]
    rfl
  apply ok_same
  refine def_go rfl ?_
  refine s_last (s_ret ?_)
  simp [progD, a1, routD, a2, e2, settle_at]
theorem ho_ok {k : Int} (hp : ProgOk p) (k0 : 0 ≤ k) (k1 : k < p.2.length) : HouseOk (hoOf p k) := by
  obtain ⟨hs, rs⟩ := p
  obtain ⟨_, hh, _, hr⟩ := hp
  simp only at hr k1 hh
  have hk : k.toNat < rs.length := by omega
  have e1 : rtOf (hs, rs) k = rs[k.toNat] := by simp [rtOf, List.getD_eq_getElem?_getD, hk]
  have hm := hr rs[k.toNat] (List.getElem_mem hk)
  have hl : (rs[k.toNat].1).toNat < hs.length := by have := hm.1; omega
  have e2 : hoOf (hs, rs) k = hs[(rs[k.toNat].1).toNat] := by simp [hoOf, e1, List.getD_eq_getElem?_getD, hl]
  rw [e2]
  exact hh _ (List.getElem_mem hl)
theorem rt_ok {k : Int} (hp : ProgOk p) (k0 : 0 ≤ k) (k1 : k < p.2.length) : RoutOk p.1.length p.2.length (rtOf p k) ∧ atI (p.2.map routD) k = some (routD (rtOf p k)) := by
  have hk : k.toNat < p.2.length := by omega
  have e1 : rtOf p k = p.2[k.toNat] := by simp [rtOf, List.getD_eq_getElem?_getD, hk]
  rw [e1]
  refine ⟨hp.2.2.2 _ (List.getElem_mem hk), ?_⟩
  obtain ⟨d, e, g⟩ := atI_get (l := p.2.map routD) k0 (by simpa using k1)
  rw [e, ← g, List.getElem?_map, List.getElem?_eq_getElem hk]
  rfl
theorem row_at2 {k a : Int} (hp : ProgOk p) (k0 : 0 ≤ k) (k1 : k < p.2.length) (ha : 0 ≤ a ∧ a < (rtOf p k).2.length) : Rw (rtOf p k).2.length p.2.length (rowOf p k a) ∧ atI ((rtOf p k).2.map rowD) a = some (rowD (rowOf p k a)) ∧
    ((rowOf p k a).1 ≠ "go" → (rowOf p k a).1 ≠ "back" → a + 1 < (rtOf p k).2.length) := by
  obtain ⟨⟨_, hl, hrow, x, hx1, hx2⟩, _⟩ := rt_ok hp k0 k1
  have ha := ha
  unfold rowOf
  generalize rtOf p k = rt at *
  have hk : a.toNat < rt.2.length := by omega
  have e1 : rt.2.getD a.toNat ("back", []) = rt.2[a.toNat] := by simp [List.getD_eq_getElem?_getD, hk]
  rw [e1]
  refine ⟨row_rw (hrow _ (List.getElem_mem hk)), ?_, fun n1 n2 => ?_⟩
  · obtain ⟨d, e, g⟩ := atI_get (l := rt.2.map rowD) ha.1 (by simpa using ha.2)
    rw [e, ← g, List.getElem?_map, List.getElem?_eq_getElem hk]
    rfl
  · by_cases hlast : a + 1 < rt.2.length
    · exact hlast
    · exfalso
      have e2 : a.toNat = rt.2.length - 1 := by omega
      have e3 : rt.2[a.toNat] = x := by
        rw [List.getLast?_eq_getElem?] at hx1
        rw [← e2] at hx1
        rw [List.getElem?_eq_getElem hk] at hx1
        exact Option.some.inj hx1
      rw [e3] at n1 n2
      rcases hx2 with e | e
      · exact n1 e
      · exact n2 e
theorem idx_r1 {G : Gx} {m : Mem} {Q : D → Mem → Prop} {w : Str} {a : Int} {l : List Int} : Ok (idxD G (rowD (w, a :: l)) (.int 1) m) Q ↔ Q (.int a) m := by simp [rowD]
theorem idx_r2 {G : Gx} {m : Mem} {Q : D → Mem → Prop} {w : Str} {a b : Int} {l : List Int} : Ok (idxD G (rowD (w, a :: b :: l)) (.int 2) m) Q ↔ Q (.int b) m := by simp [rowD]
theorem idx_r3 {G : Gx} {m : Mem} {Q : D → Mem → Prop} {w : Str} {a b c : Int} {l : List Int} : Ok (idxD G (rowD (w, a :: b :: c :: l)) (.int 3) m) Q ↔ Q (.int c) m := by simp [rowD]
theorem idx_rl1 {G : Gx} {m : Mem} {Q : D → Mem → Prop} {w : Str} {a : Int} : Ok (idxD G (rowD (w, [a])) (.int (-1)) m) Q ↔ Q (.int a) m := by
  have : atI [D.str w, .int a] (-1) = some (.int a) := rfl
  simp [rowD, this]
theorem idx_rl2 {G : Gx} {m : Mem} {Q : D → Mem → Prop} {w : Str} {a b : Int} : Ok (idxD G (rowD (w, [a, b])) (.int (-1)) m) Q ↔ Q (.int b) m := by
  have : atI [D.str w, .int a, .int b] (-1) = some (.int b) := rfl
  simp [rowD, this]
theorem undL_not {n : Nat} {x : D} : ∀ {xs : List D}, x ∈ xs → x.und n = false → D.undL n xs = false
  | [], h, _ => by cases h
  | y :: ys, h, hx => by
    rcases List.mem_cons.mp h with e | e
    · rw [← e, D.undL, hx]; rfl
    · rw [D.undL, undL_not e hx, Bool.and_false]
theorem all_not {mm : Mem} {n k : Nat} {c : Cell} (h : mm[k]? = some c) (hk : k < n) (hc : c.und n = false) : (mm.take n).all (Cell.und n) = false := by
  cases ha : (mm.take n).all (Cell.und n) with
  | false => rfl
  | true =>
    have hm : c ∈ mm.take n := List.mem_of_getElem? (i := k) (by rw [List.getElem?_take, if_pos hk]; exact h)
    have := List.all_eq_true.mp ha c hm
    rw [hc] at this
    cases this
theorem idx_row' {G : Gx} {e : EnvD} {m : Mem} {Q : D → Mem → Prop} {x : Row} {i : Nat} {n : Str} (h : e[i]? = some (some (rowD x))) : OkE G (.idx (.var i n) (.cst (.int 0))) e m Q ↔ Q (.str x.1) m := by
  simp [h, idx_row]
end
theorem lkF {G : Gx} {f : Str} {d : D} {fs : List (Str × D)} (h : lookS fs f = some d) {x : Nat} {C : Str} {mm : Mem} (hx : mm[x]? = some (.ins C fs)) (hf : G.fld C f = true) : attD G (.ptr x) f mm = .ok d mm := by
  simp only [attD, hx, hf, h, if_true, retO]
theorem mid_get {m Y : Mem} {c : Cell} : (m ++ (c :: Y))[m.length]? = some c := by simp
theorem mid_set {G : Gx} {m Y : Mem} {C f : Str} {fs : List (Str × D)} {d : D} (hf : G.fld C f = true) (hl : fs.length < 1000) : setAttD G (.ptr m.length) f d (m ++ (.ins C fs :: Y)) = some (m ++ (.ins C (putS f d fs) :: Y)) := by
  simp only [setAttD, mid_get, hf, hl, true_and, if_true]
  simp
theorem mid_att {G : Gx} {m Y : Mem} {C f : Str} {fs : List (Str × D)} {d : D} (hf : G.fld C f = true) (hl : lookS fs f = some d) : attD G (.ptr m.length) f (m ++ (.ins C fs :: Y)) = .ok d (m ++ (.ins C fs :: Y)) := lkF hl mid_get hf
theorem mid_app {m Y : Mem} {c x : Cell} : m ++ (c :: Y) ++ [x] = m ++ (c :: (Y ++ [x])) := by simp
theorem mid_len {m Y : Mem} {c : Cell} : (m ++ (c :: Y)).length = m.length + (1 + Y.length) := by simp; omega
end Mi

set_option Elab.async false
set_option linter.all false
set_option maxRecDepth 100000
set_option maxHeartbeats 4000000
namespace Mi
open PySem L2 TL
/-! ### what is left lying in memory -/
def gOk (r : Mem) : Prop := r.all (Cell.und (r.length + 2)) = true
theorem gOk.add {S : Hs} {r t : Mem} (h : gOk r) (ht : t.all (Cell.und (r.length + t.length + 2)) = true) : gOk (r ++ t) := by
  unfold gOk at h ⊢
  rw [List.all_append, Bool.and_eq_true, List.length_append]
  exact ⟨all_up (by omega) h, ht⟩
theorem undL_app {n : Nat} : ∀ {a b : List D}, D.undL n (a ++ b) = (D.undL n a && D.undL n b)
  | [], b => by simp [D.undL]
  | x :: a, b => by simp [D.undL, undL_app (a := a), Bool.and_assoc]
theorem gOk.hm {S : Hs} {r : Mem} (h : gOk r) : (hm S r).all (Cell.und (hm S r).length) = true := und_hm (by simp [hm_len]) h
end Mi

set_option Elab.async false
set_option linter.all false
set_option maxRecDepth 100000
set_option maxHeartbeats 4000000
namespace Mi
open PySem L2 TL
/-! ### loops over lists -/
theorem oo_turn {o : Out} {k : EnvD → Mem → Out} {D : Po} {N : EnvD → Mem → Prop} (h : Oo o { D with nx := N, ct := N, bk := D.nx }) (hk : ∀ e m, N e m → Oo (k e m) D) : Oo (o.turn k) D := by
  cases o with
  | nxt e m => exact hk _ _ h
  | cnt e m => exact hk _ _ h
  | brk e m => exact h
  | ret d m => exact h
  | exc x e m => exact h
  | stuck => exact h.elim
/-- a loop over a list, known or in memory, that stays as it is -/
theorem s_any {G : Gx} {t : CT} {a : CE} {b : CSs} {e : EnvD} {m : Mem} {D : Po} {x : Mi.D} {ys : List Mi.D} (I : List Mi.D → EnvD → Mem → Prop) (hy : ys.length < line) (h : OkE G a e m fun d m => d = x ∧ getL m x = some ys ∧ I ys e m)
    (hk : ∀ ds e m, I ds e m → getL m x = some ys) (hs : ∀ d r e m, I (d :: r) e m → ∃ e', bindT t d m e = some e' ∧ OSs G b e' m { D with nx := I r, ct := I r, bk := D.nx }) (hd : ∀ e m, I [] e m → D.nx e m) : OS G (.loop t (.seq a) b) e m D := by
  with_unfolding_all
    refine oo_out (Ok.mono (show Ok (evalI G (.seq a) e m) fun J m => I ys e m ∧ getL m x = some ys ∧ (J = .fix ys ∨ ∃ n, x = .ptr n ∧ J = .liv n) from ?_) ?_)
    · have q : OkI G (.seq a) e m fun J m => I ys e m ∧ getL m x = some ys ∧ (J = .fix ys ∨ ∃ n, x = .ptr n ∧ J = .liv n) := by
        refine w_seq.mpr (e_mono h fun d m ⟨e1, e2, e3⟩ => ?_)
        subst e1
        rcases getL_of e2 with rfl | ⟨p, rfl, e4⟩
        · exact ⟨_, rfl, e3, e2, .inl rfl⟩
        · exact ⟨.liv p, by simp only [itSeq, e4], e3, e2, .inr ⟨p, rfl, rfl⟩⟩
      exact q
    · rintro J m1 ⟨hI, hg, hJ⟩
      have body : ∀ d r e m, I (d :: r) e m → Oo ((fun d e m => match bindT t d m e with | some e => execL G b e m | none => .stuck) d e m) { D with nx := I r, ct := I r, bk := D.nx } := fun d r e m hh => by
        obtain ⟨e', h1, h2⟩ := hs d r e m hh
        simp only [h1]
        exact h2
      rcases hJ with rfl | ⟨n, rfl, rfl⟩
      · exact s_forFix I hI body hd
      · have go : ∀ (k i : Nat) (e : EnvD) (m : Mem), ys.length ≤ i + k → i ≤ ys.length → I (ys.drop i) e m → Oo (forLiv (fun d e m => match bindT t d m e with | some e => execL G b e m | none => .stuck) n k i e m) D := by
          intro k
          induction k with
          | zero =>
            intro i e m h1 h2 h3
            have hm := hk _ _ _ h3
            rcases getL_of hm with q | ⟨p, q, e4⟩
            · cases q
            cases q
            rw [forLiv_eq, e4]
            have : i = ys.length := by omega
            subst this
            simp only [List.getElem?_eq_none (Nat.le_refl _)]
            rw [List.drop_length] at h3
            exact hd _ _ h3
          | succ k ih =>
            intro i e m h1 h2 h3
            have hm := hk _ _ _ h3
            rcases getL_of hm with q | ⟨p, q, e4⟩
            · cases q
            cases q
            rw [forLiv_eq, e4]
            by_cases hi : i < ys.length
            · simp only [List.getElem?_eq_getElem hi]
              rw [List.drop_eq_getElem_cons hi] at h3
              exact oo_turn (body _ _ _ _ h3) fun e m q => ih _ _ _ (by omega) (by omega) q
            · have : i = ys.length := by omega
              subst this
              simp only [List.getElem?_eq_none (Nat.le_refl _)]
              rw [List.drop_length] at h3
              exact hd _ _ h3
        exact go line 0 _ _ (by omega) (Nat.zero_le _) hI
end Mi

set_option Elab.async false
set_option linter.all false
set_option maxRecDepth 100000
set_option maxHeartbeats 4000000
namespace Mi
open PySem L2 TL
/-! ### saves put in, plainly -/
abbrev Sv := Int × Int
def atP (sv : List Sv) (a : Int) : List Int := (sv.filter fun s => decide (s.1 = a)).map (·.2)
def psh (l : List Int) : List Row := l.map fun b => ("push", [b])
def pps (l : List Int) : List Row := l.reverse.map fun b => ("pop", [b])
def layA (sv : List Sv) (j : Nat) (r : Row) : List Row := psh (atP sv j) ++ ((if r.1 = "back" then pps (atP sv (-1)) else []) ++ ([r] ++ pps (atP sv j)))
def foundA (sv : List Sv) (rows : List Row) : Nat → List Row
  | 0 => psh (atP sv (-1))
  | n + 1 => foundA sv rows n ++ layA sv n (rows.getD n ("back", []))
def begA' (sv : List Sv) (rows : List Row) (j : Nat) : Int := (foundA sv rows j).length
def turnA (sv : List Sv) (rows : List Row) (r : Row) : Row := if r.1 = "zero" ∨ r.1 = "go" then (r.1, r.2.dropLast ++ [begA' sv rows (lst0 r.2).toNat]) else r
def rowsA (sv : List Sv) (rows : List Row) : List Row := (foundA sv rows rows.length).map (turnA sv rows)
def putA (p : Prog) (k : Int) (sv : List Sv) : Prog := (p.1, p.2.take k.toNat ++ [((rtOf p k).1, rowsA sv (rtOf p k).2)] ++ p.2.drop (k.toNat + 1))
theorem atP_len {sv : List Sv} {a : Int} : (atP sv a).length ≤ sv.length := by
  unfold atP
  rw [List.length_map]
  exact List.length_filter_le _ _
theorem atP_app {sv : List Sv} {s : Sv} {a : Int} : atP (sv ++ [s]) a = if s.1 = a then atP sv a ++ [s.2] else atP sv a := by
  unfold atP
  by_cases h : s.1 = a <;> simp [List.filter_append, List.filter_cons, h]
theorem psh_len {l : List Int} : (psh l).length = l.length := by simp [psh]
theorem pps_len {l : List Int} : (pps l).length = l.length := by simp [pps]
theorem layA_len {sv : List Sv} {j : Nat} {r : Row} : (layA sv j r).length ≤ 3 * sv.length + 1 := by
  have h1 := @atP_len sv j
  have h2 := @atP_len sv (-1)
  unfold layA
  split <;> simp [psh_len, pps_len] <;> omega
theorem foundA_len {sv : List Sv} {rows : List Row} : ∀ n : Nat, (foundA sv rows n).length ≤ sv.length + n * (3 * sv.length + 1)
  | 0 => by have := @atP_len sv (-1); simp [foundA, psh_len]; exact this
  | n + 1 => by
    have h1 := foundA_len (sv := sv) (rows := rows) n
    have h2 := @layA_len sv n (rows.getD n ("back", []))
    rw [foundA, List.length_append, Nat.add_mul]
    omega
/-- what a dict of saves holds -/
def SvdOk (svd : List (Key × D)) (sv : List Sv) : Prop := ∀ a : Int, (lookK svd (.inl a)).getD (.lst []) = .lst ((atP sv a).map .int)
theorem lookK_cons {kvs : List (Key × D)} {q : Key × D} {k : Key} : lookK (q :: kvs) k = if q.1 = k then some q.2 else lookK kvs k := by
  unfold lookK
  rw [List.find?_cons]
  by_cases h : q.1 = k <;> simp [h]
theorem lookK_app {kvs : List (Key × D)} {k k' : Key} {d : D} (h : hasK kvs k = false) : lookK (kvs ++ [(k, d)]) k' = if k = k' then some d else lookK kvs k' := by
  induction kvs with
  | nil => by_cases h : k = k' <;> simp [lookK, h]
  | cons q kvs ih =>
    unfold hasK at h ih
    simp only [List.any_cons, Bool.or_eq_false_iff, decide_eq_false_iff_not] at h
    rw [List.cons_append, lookK_cons, lookK_cons, ih h.2]
    by_cases h1 : q.1 = k'
    · rw [if_pos h1, if_pos h1, if_neg (fun e => h.1 (h1.trans e.symm))]
    · rw [if_neg h1, if_neg h1]
theorem lookK_map {kvs : List (Key × D)} {k k' : Key} {d : D} (h : hasK kvs k = true) : lookK (kvs.map fun p => if p.1 = k then (p.1, d) else p) k' = if k = k' then some d else lookK kvs k' := by
  induction kvs with
  | nil => simp [hasK] at h
  | cons q kvs ih =>
    rw [List.map_cons, lookK_cons, lookK_cons]
    by_cases hq : q.1 = k
    · rw [if_pos hq]
      simp only
      by_cases h1 : k = k'
      · rw [if_pos (hq.trans h1), if_pos h1]
      · rw [if_neg (fun e => h1 (hq.symm.trans e)), if_neg h1, if_neg (fun e => h1 (hq.symm.trans e))]
        by_cases h2 : hasK kvs k = true
        · rw [ih h2, if_neg h1]
        · clear ih
          have h2 : hasK kvs k = false := by simpa using h2
          have : kvs.map (fun p => if p.1 = k then (p.1, d) else p) = kvs := by
            have : ∀ p ∈ kvs, (if p.1 = k then (p.1, d) else p) = p := fun p hp => by
              unfold hasK at h2
              have := List.any_eq_false.mp h2 p hp
              rw [if_neg (by simpa using this)]
            rw [List.map_congr_left this, List.map_id']
          rw [this]
    · rw [if_neg hq]
      have h2 : hasK kvs k = true := by
        unfold hasK at h ⊢
        simpa [hq] using h
      by_cases h1 : q.1 = k'
      · rw [if_pos h1, if_pos h1, if_neg (fun e => hq (h1.trans e.symm))]
      · rw [if_neg h1, if_neg h1, ih h2]
theorem look_putD {kvs : List (Key × D)} {k k' : Key} {d : D} : lookK (putD kvs k d) k' = if k = k' then some d else lookK kvs k' := by
  unfold putD
  by_cases h : hasK kvs k = true
  · rw [if_pos h, lookK_map h]
  · rw [if_neg h, lookK_app (by simpa using h)]
theorem putD_len {kvs : List (Key × D)} {k : Key} {d : D} : (putD kvs k d).length ≤ kvs.length + 1 := by
  unfold putD
  split <;> simp
theorem SvdOk.nil : SvdOk [] [] := fun _ => rfl
theorem SvdOk.add {svd : List (Key × D)} {sv : List Sv} {s : Sv} (h : SvdOk svd sv) : SvdOk (putD svd (.inl s.1) (.lst ((atP sv s.1).map .int ++ [.int s.2]))) (sv ++ [s]) := fun a => by
  rw [look_putD, atP_app]
  by_cases e : s.1 = a
  · subst e
    simp
  · rw [if_neg (fun z => e (Sum.inl.inj z)), if_neg e]
    exact h a
theorem m_getP {p : Nat} {kvs : List (Key × D)} {a : Int} {d : D} {m : Mem} {Q : D → Mem → Prop} (h : m[p]? = some (.dct kvs)) : Ok (mthD (.ptr p) .get [.int a, d] m) Q ↔ Q ((lookK kvs (.inl a)).getD d) m := by
  simp only [mthD, getK, h, kD, ok_ok]
end Mi

set_option Elab.async false
set_option linter.all false
set_option maxRecDepth 100000
set_option maxHeartbeats 4000000
namespace Mi
open PySem L2 TL
/-! ### Putter -/
def pmF (b : Nat) (rows : List Row) : List (Str × D) := [("rows", .tup (rows.map rowD)), ("saves", .ptr (b + 1)), ("found", .ptr (b + 2)), ("begins", .ptr (b + 3))]
def PM (m : Mem) (rows : List Row) (svd : List (Key × D)) (found : List Row) (begs : List Int) : Mem := m ++ [.ins "Putter" (pmF m.length rows), .dct svd, .lst (found.map rowD), .lst (begs.map .int)]
section
variable {m : Mem} {rows found : List Row} {svd : List (Key × D)} {begs : List Int} {sv : List Sv} {G : Gx}
theorem pm_len : (PM m rows svd found begs).length = m.length + 4 := by simp [PM]
theorem pm_self : (PM m rows svd found begs)[m.length]? = some (.ins "Putter" (pmF m.length rows)) := mid_get
theorem pm_svd : (PM m rows svd found begs)[m.length + 1]? = some (.dct svd) := by rw [PM, app_get]; rfl
theorem pm_found : (PM m rows svd found begs)[m.length + 2]? = some (.lst (found.map rowD)) := by rw [PM, app_get]; rfl
theorem pm_begs : (PM m rows svd found begs)[m.length + 3]? = some (.lst (begs.map .int)) := by rw [PM, app_get]; rfl
theorem pm_setF {f' : List Row} : (PM m rows svd found begs).set (m.length + 2) (.lst (f'.map rowD)) = PM m rows svd f' begs := by rw [PM, app_set]; rfl
theorem pm_setB {b' : List Int} : (PM m rows svd found begs).set (m.length + 3) (.lst (b'.map .int)) = PM m rows svd found b' := by rw [PM, app_set]; rfl
theorem pa_rows (hf : G.fld "Putter" "rows" = true) : attD G (.ptr m.length) "rows" (PM m rows svd found begs) = .ok (.tup (rows.map rowD)) (PM m rows svd found begs) := lkF rfl pm_self hf
theorem pa_saves (hf : G.fld "Putter" "saves" = true) : attD G (.ptr m.length) "saves" (PM m rows svd found begs) = .ok (.ptr (m.length + 1)) (PM m rows svd found begs) := lkF rfl pm_self hf
theorem pa_found (hf : G.fld "Putter" "found" = true) : attD G (.ptr m.length) "found" (PM m rows svd found begs) = .ok (.ptr (m.length + 2)) (PM m rows svd found begs) := lkF rfl pm_self hf
theorem pa_begs (hf : G.fld "Putter" "begins" = true) : attD G (.ptr m.length) "begins" (PM m rows svd found begs) = .ok (.ptr (m.length + 3)) (PM m rows svd found begs) := lkF rfl pm_self hf
theorem pushD (l : List Int) : (l.map fun b => D.tup [.str "push", .int b]) = (psh l).map rowD := by simp [psh, rowD]
theorem popD (l : List Int) : (l.reverse.map fun b => D.tup [.str "pop", .int b]) = (pps l).map rowD := by simp [pps, rowD]
theorem lay_ok {j : Nat} (hj : j < rows.length) (hs : SvdOk svd sv) (hl : sv.length ≤ 1000) (hfl : found.length ≤ 900000) :
    f_Putter_lay [.ptr m.length, .int j] (PM m rows svd found begs) = .ok .non (PM m rows svd (found ++ layA sv j (rows.getD j ("back", []))) begs) := by
  obtain ⟨r, hr⟩ : ∃ r, rows.getD j ("back", []) = r := ⟨_, rfl⟩
  have hrow : atI (rows.map rowD) (j : Int) = some (rowD r) := by
    rw [atI_nat, List.getElem?_map, List.getElem?_eq_getElem hj, ← hr, List.getD_eq_getElem?_getD, List.getElem?_eq_getElem hj]
    rfl
  have hat := fun a => @atP_len sv a
  rw [hr]
  apply ok_same
  refine def_go rfl ?_
  rw [pm_len]
  refine s_cons (s_set ?_)
  simp [pa_rows (G := g_Putter_lay) rfl, hrow]
  refine s_cons (s_set ?_)
  simp [pa_saves (G := g_Putter_lay) rfl]
  refine ⟨k_getP pm_svd, ?_⟩
  rw [m_getP pm_svd, hs]
  refine s_cons (s_exp ?_)
  simp [pa_found (G := g_Putter_lay) rfl]
  refine ⟨k_ext pm_found, ?_⟩
  have hln : (1000000 : Nat) = line := rfl
  refine lc_mapF (f := D.int) (g := fun b => D.tup [.str "push", .int b]) (l := atP sv j) (fun b _ => ok_same (lc_body rfl (by simp [wipeE]))) (by have := hat j; omega) ?_
  rw [pushD]
  refine (m_ext pm_found rfl).mpr ⟨by have := hat j; simp [psh_len]; omega, ?_⟩
  rw [← List.map_append, pm_setF]
  obtain ⟨N, hN⟩ : ∃ N : EnvD → Mem → Prop, ∀ e mm, N e mm ↔ (∃ e4, mm = PM m rows svd (found ++ psh (atP sv j) ++ (if r.1 = "back" then pps (atP sv (-1)) else [])) begs ∧ e = [some (.ptr m.length), some (.int j), some (rowD r), some (.lst ((atP sv j).map .int)), e4]) := ⟨_, fun _ _ => Iff.rfl⟩
  refine s_cons (s_cut N (s_ite ?_) ?_)
  · rw [w_test, w_cmp, idx_row' (x := r) rfl]
    simp
    by_cases hb : r.1 = "back"
    · simp [hb]
      refine s_last (s_exp ?_)
      simp [pa_found (G := g_Putter_lay) rfl, pa_saves (G := g_Putter_lay) rfl]
      refine ⟨k_ext pm_found, k_getP pm_svd, ?_⟩
      rw [m_getP pm_svd, hs]
      refine ⟨_, .inr rfl, ?_⟩
      rw [← List.map_reverse]
      refine lc_mapF (f := D.int) (g := fun b => D.tup [.str "pop", .int b]) (l := (atP sv (-1)).reverse) (fun b _ => ok_same (lc_body rfl (by simp [wipeE]))) (by have := hat (-1); simp; omega) ?_
      rw [popD]
      refine (m_ext pm_found rfl).mpr ⟨by have := hat j; have := hat (-1); simp [psh_len, pps_len]; omega, ?_⟩
      rw [← List.map_append, pm_setF]
      exact (hN _ _).mpr ⟨_, by rw [if_pos hb], rfl⟩
    · simp [hb]
      exact s_nil ((hN _ _).mpr ⟨_, by rw [if_neg hb, List.append_nil], rfl⟩)
  · intro e mm hh
    obtain ⟨e4, rfl, rfl⟩ := (hN _ _).mp hh
    obtain ⟨pp, hpp⟩ : ∃ pp, (if r.1 = "back" then pps (atP sv (-1)) else []) = pp := ⟨_, rfl⟩
    have hpl : pp.length ≤ 1000 := by rw [← hpp]; have := hat (-1); split <;> simp [pps_len] <;> omega
    rw [hpp]
    have hatj := hat j
    refine s_cons (s_exp ?_)
    simp [pa_found (G := g_Putter_lay) rfl]
    refine ⟨k_app pm_found, (m_app pm_found).mpr ⟨by simp [psh_len]; omega, ?_⟩⟩
    have e1 : (found ++ (psh (atP sv j) ++ pp)).map rowD ++ [rowD r] = (found ++ (psh (atP sv j) ++ pp) ++ [r]).map rowD := by simp
    rw [e1, pm_setF]
    refine s_last (s_exp ?_)
    simp [pa_found (G := g_Putter_lay) rfl]
    refine ⟨k_ext pm_found, ?_⟩
    rw [← List.map_reverse]
    refine lc_mapF (f := D.int) (g := fun b => D.tup [.str "pop", .int b]) (l := (atP sv j).reverse) (fun b _ => ok_same (lc_body rfl (by simp [wipeE]))) (by simp; omega) ?_
    rw [popD]
    refine (m_ext pm_found rfl).mpr ⟨by simp [psh_len, pps_len]; omega, ?_⟩
    rw [← List.map_append, pm_setF, settle_at pm_len]
    refine ⟨rfl, ?_⟩
    unfold layA
    rw [hpp]
    simp
def SM (m : Mem) (rows : List Row) (svd : List (Key × D)) : Mem := m ++ [.ins "Putter" [("rows", .tup (rows.map rowD)), ("saves", .ptr (m.length + 1))], .dct svd]
theorem sm_svd : (SM m rows svd)[m.length + 1]? = some (.dct svd) := by rw [SM, app_get]; rfl
theorem sm_saves (hf : G.fld "Putter" "saves" = true) : attD G (.ptr m.length) "saves" (SM m rows svd) = .ok (.ptr (m.length + 1)) (SM m rows svd) := lkF rfl mid_get hf
theorem sm_put {a : Int} {d : D} (h : svd.length < 1000000) : setItemD (.ptr (m.length + 1)) (.int a) d (SM m rows svd) = some (SM m rows (putD svd (.inl a) d)) := by
  have h' : svd.length < line := h
  simp only [setItemD, sm_svd, kD, h', if_true]
  rw [SM, SM, app_set]
  rfl
theorem undK_app {n : Nat} : ∀ {a b : List (Key × D)}, D.undK n (a ++ b) = (D.undK n a && D.undK n b)
  | [], b => by simp [D.undK]
  | x :: a, b => by simp [D.undK, undK_app (a := a), Bool.and_assoc]
theorem undK_put {n : Nat} {kvs : List (Key × D)} {k : Key} {d : D} (h : D.undK n kvs = true) (hd : d.und n = true) : D.undK n (putD kvs k d) = true := by
  unfold putD
  split
  · have go : ∀ l : List (Key × D), D.undK n l = true → D.undK n (l.map fun p => if p.1 = k then (p.1, d) else p) = true := by
      intro l
      induction l with
      | nil => intro _; rfl
      | cons x l ih =>
        intro h
        simp only [D.undK, Bool.and_eq_true] at h
        rw [List.map_cons]
        by_cases hx : x.1 = k
        · rw [if_pos hx]
          simp only [D.undK, Bool.and_eq_true]
          exact ⟨hd, ih h.2⟩
        · rw [if_neg hx]
          simp only [D.undK, Bool.and_eq_true]
          exact ⟨h.1, ih h.2⟩
    exact go _ h
  · rw [undK_app, h]
    simp [D.undK, hd]
/-- the rows, and where old ones begin -/
theorem init_put {sd : D} (hsd : ∀ mm : Mem, getL (m ++ mm) sd = some (sv.map pairD)) (hl : sv.length ≤ 60) (hr : rows.length ≤ 40) :
    Ok (f_Putter___init__ [.ptr m.length, .tup (rows.map rowD), sd] (m ++ [.ins "Putter" []])) fun d mm => d = .non ∧ ∃ svd, (∀ n, D.undK n svd = true) ∧ mm = PM m rows svd (foundA sv rows rows.length) ((List.range rows.length).map (begA' sv rows)) := by
  obtain ⟨Z, hZ⟩ : ∃ Z : D → Mem → Prop, ∀ d mm, Z d mm ↔ (d = .non ∧ ∃ svd, (∀ n, D.undK n svd = true) ∧ mm = PM m rows svd (foundA sv rows rows.length) ((List.range rows.length).map (begA' sv rows))) := ⟨_, fun _ _ => Iff.rfl⟩
  refine Ok.mono (Q := Z) ?_ fun d mm h => (hZ d mm).mp h
  refine def_go rfl ?_
  refine s_cons (s_att ?_)
  simp
  refine ⟨_, mid_set (Y := []) rfl (by simp), ?_⟩
  refine s_cons (s_att ?_)
  simp
  refine ⟨_, mid_set rfl (by simp [putS]), ?_⟩
  have e1 : m ++ [Cell.ins "Putter" (putS "saves" (.ptr (m.length + 1)) (putS "rows" (D.tup (rows.map rowD)) [])), .dct []] = SM m rows [] := rfl
  rw [e1]
  obtain ⟨N, hN⟩ : ∃ N : List D → EnvD → Mem → Prop, ∀ ds e mm, N ds e mm ↔ (∃ (l done : List Sv) (svd : List (Key × D)) (e3 e4 e5 : Option D), ds = l.map pairD ∧ done ++ l = sv ∧ SvdOk svd done ∧ svd.length ≤ done.length ∧ (∀ n, D.undK n svd = true) ∧ mm = SM m rows svd ∧
    e = [some (.ptr m.length), some (.tup (rows.map rowD)), some sd, e3, e4, e5]) := ⟨_, fun _ _ _ => Iff.rfl⟩
  have hln : (1000000 : Nat) = line := rfl
  refine s_cons (s_any (x := sd) (ys := sv.map pairD) N (by simp; omega) ?_ ?_ ?_ ?_)
  · simp
    exact ⟨hsd _, (hN _ _ _).mpr ⟨sv, [], [], _, _, _, rfl, rfl, .nil, by simp, fun _ => rfl, rfl, rfl⟩⟩
  · intro ds e mm hh
    obtain ⟨l, done, svd, e3, e4, e5, _, _, _, _, _, rfl, _⟩ := (hN _ _ _).mp hh
    exact hsd _
  · intro d ds e mm hh
    obtain ⟨l, done, svd, e3, e4, e5, hds, hdl, hsv, hsl, hun, rfl, rfl⟩ := (hN _ _ _).mp hh
    cases l with
    | nil => cases hds
    | cons q l =>
      cases hds
      have hdn : done.length + (l.length + 1) = sv.length := by rw [← hdl]; simp
      refine ⟨_, rfl, ?_⟩
      refine s_last (s_sub ?_)
      have hat := @atP_len done q.1
      simp [sm_saves (G := g_Putter___init__) rfl]
      refine ⟨k_getP sm_svd, ?_⟩
      rw [m_getP sm_svd, hsv, b_lst (xs := (atP done q.1).map .int) (ys := [.int q.2]) rfl rfl]
      simp
      refine ⟨by omega, ?_⟩
      simp [sm_saves (G := g_Putter___init__) rfl]
      refine ⟨_, sm_put (by omega), ?_⟩
      exact (hN _ _ _).mpr ⟨l, done ++ [q], _, _, _, _, rfl, by simp [hdl], hsv.add, by have := @putD_len svd (.inl q.1) (.lst ((atP done q.1).map .int ++ [.int q.2])); simp; omega, fun n => undK_put (hun n) (by simp [D.und, undL_app, und_ints, D.undL]), rfl, rfl⟩
  · intro e mm hh
    obtain ⟨l, done, svd, e3, e4, e5, hds, hdl, hsv, hsl, hun, rfl, rfl⟩ := (hN _ _ _).mp hh
    have hl0 : l = [] := by simpa using hds.symm
    subst hl0
    have hdl : done = sv := by simpa using hdl
    subst hdl
    have hat := @atP_len done (-1)
    refine s_cons (s_att ?_)
    simp [sm_saves (G := g_Putter___init__) rfl]
    refine ⟨k_getP sm_svd, ?_⟩
    rw [m_getP sm_svd, hsv]
    refine ⟨_, rfl, ?_⟩
    refine lc_mapF (f := D.int) (g := fun b => D.tup [.str "push", .int b]) (l := atP done (-1)) (fun b _ => ok_same (lc_body rfl (by simp [wipeE]))) (by omega) ?_
    rw [pushD]
    have hsl' : (SM m rows svd).length = m.length + 2 := by simp [SM]
    rw [hsl']
    have e2 : SM m rows svd ++ [Cell.lst ((psh (atP done (-1))).map rowD)] = m ++ (.ins "Putter" [("rows", .tup (rows.map rowD)), ("saves", .ptr (m.length + 1))] :: [.dct svd, .lst ((psh (atP done (-1))).map rowD)]) := by simp [SM]
    rw [e2]
    refine ⟨_, mid_set rfl (by simp), ?_⟩
    refine s_cons (s_att ?_)
    simp
    refine ⟨_, mid_set rfl (by simp [putS]), ?_⟩
    have e3' : m ++ (Cell.ins "Putter" (putS "begins" (.ptr (m.length + 3)) (putS "found" (.ptr (m.length + 2)) ([("rows", .tup (rows.map rowD)), ("saves", .ptr (m.length + 1))] : List (Str × D)))) :: [.dct svd, .lst ((psh (atP done (-1))).map rowD), .lst []]) = PM m rows svd (foundA done rows 0) [] := rfl
    rw [e3']
    obtain ⟨N2, hN2⟩ : ∃ N2 : List D → EnvD → Mem → Prop, ∀ ds e mm, N2 ds e mm ↔ (∃ (j : Nat) (e5 : Option D), j ≤ rows.length ∧ ds = (List.range' j (rows.length - j)).map (fun k => D.int (k : Nat)) ∧ mm = PM m rows svd (foundA done rows j) ((List.range j).map (begA' done rows)) ∧
      e = [some (.ptr m.length), some (.tup (rows.map rowD)), some sd, e3, e4, e5]) := ⟨_, fun _ _ _ => Iff.rfl⟩
    refine s_last (s_for N2 ?_ ?_ ?_)
    · simp
      exact ⟨_, rng_n (by omega), (hN2 _ _ _).mpr ⟨0, _, by omega, by rw [List.range_eq_range']; simp, rfl, rfl⟩⟩
    · intro d ds e mm hh
      obtain ⟨j, e5, hj, hds, rfl, rfl⟩ := (hN2 _ _ _).mp hh
      have hlt : j < rows.length := by
        by_cases h : j < rows.length
        · exact h
        · rw [show rows.length - j = 0 by omega] at hds; cases hds
      rw [show rows.length - j = (rows.length - (j + 1)) + 1 by omega, List.range'_succ, List.map_cons] at hds
      cases hds
      refine ⟨_, rfl, ?_⟩
      have hfl := @foundA_len done rows j
      have hfl2 : (foundA done rows j).length ≤ 10000 := by
        have : j * (3 * done.length + 1) ≤ 40 * 181 := Nat.mul_le_mul (by omega) (by omega)
        omega
      refine s_cons (s_exp ?_)
      simp [pa_begs (G := g_Putter___init__) rfl, pa_found (G := g_Putter___init__) rfl]
      refine ⟨k_app pm_begs, ?_⟩
      rw [len_getL (xs := (foundA done rows j).map rowD) (by simp only [getL, pm_found])]
      refine ⟨_, rfl, ?_⟩
      refine (m_app pm_begs).mpr ⟨by simp; omega, ?_⟩
      have eb : ((List.range j).map (begA' done rows)).map D.int ++ [D.int ((foundA done rows j).map rowD).length] = ((List.range (j + 1)).map (begA' done rows)).map .int := by
        rw [List.range_succ]
        simp [begA']
      rw [eb, pm_setB]
      refine s_last (s_exp ?_)
      simp [pm_self]
      refine ⟨by rfl, ?_⟩
      rw [lay_ok hlt hsv (by omega) (by omega)]
      exact ok_ok.mpr ((hN2 _ _ _).mpr ⟨j + 1, _, by omega, rfl, rfl, rfl⟩)
    · intro e mm hh
      obtain ⟨j, e5, hj, hds, rfl, rfl⟩ := (hN2 _ _ _).mp hh
      have hjn : j = rows.length := by
        by_cases h : j < rows.length
        · rw [show rows.length - j = (rows.length - (j + 1)) + 1 by omega, List.range'_succ, List.map_cons] at hds
          cases hds
        · omega
      subst hjn
      simp
      refine (settle_keep (all_not (k := m.length) pm_self (by omega) (undL_not (x := .ptr (m.length + 1)) (by simp [pmF]) (by simp [D.und])))).mpr ?_
      exact (hZ _ _).mpr ⟨rfl, svd, hun, rfl⟩
end
end Mi

set_option Elab.async false
set_option linter.all false
set_option maxRecDepth 100000
set_option maxHeartbeats 4000000
namespace Mi
open PySem L2 TL
/-! ### rows turned; a program with saves -/
def turnB (begs : List Int) (r : Row) : Row := if r.1 = "zero" ∨ r.1 = "go" then (r.1, r.2.dropLast ++ [bg begs (lst0 r.2)]) else r
structure TrOk (n : Nat) (r : Row) : Prop where
  str : PyData.strOk r.1 = true
  goal : r.1 = "zero" ∨ r.1 = "go" → r.2 ≠ [] ∧ 0 ≤ lst0 r.2 ∧ lst0 r.2 < n
  len : r.2.length ≤ 3
theorem cut_last (l : List D) : cutD l none (some (-1)) = l.dropLast := by
  unfold cutD HT.sIx
  simp only [List.drop_zero, Nat.sub_zero]
  rw [List.dropLast_eq_take]
  congr 1
  by_cases h : l.length = 0
  · simp [h]
  · have h1 : (-1 : Int) < 0 := by omega
    simp only [h1, if_true]
    omega
theorem row_init (r : Row) (h : r.2 ≠ []) : D.tup (cutD (.str r.1 :: r.2.map .int) none (some (-1))) = rowD (r.1, r.2.dropLast) := by
  rw [cut_last]
  have h2 : r.2.map D.int ≠ [] := by simpa using h
  rw [List.dropLast_cons_of_ne_nil h2]
  simp [rowD]
theorem row_last (r : Row) (h : r.2 ≠ []) : atI (.str r.1 :: r.2.map D.int) (-1) = some (.int (lst0 r.2)) := by
  rw [atI_last (by simp)]
  have h2 : r.2.map D.int ≠ [] := by simpa using h
  rw [List.getLast_cons h2, List.getLast_map h2, lst0, List.getLastD_eq_getLast?, List.getLast?_eq_some_getLast h]
  rfl
theorem zg_in {G : Gx} {m : Mem} {w : Str} (h : PyData.strOk w = true) : inD G (.str w) (.tup [.str "zero", .str "go"]) m = some (decide (w = "zero" ∨ w = "go")) := by
  have e := in_strs (G := G) (m := m) (x := w) (l := ["zero", "go"]) h (by decide +kernel)
  simpa using e
def trD (begs : List Int) (l : List Row) : List D := (l.map (turnB begs)).map rowD
theorem trD_len {begs : List Int} {l : List Row} : (trD begs l).length = l.length := by simp [trD]
theorem trD_app {begs : List Int} {l : List Row} {r : Row} : trD begs l ++ [rowD (turnB begs r)] = trD begs (l ++ [r]) := by simp [trD]
theorem und_row' (n : Nat) (r : Row) : (rowD r).und n = true := by simp [rowD, D.und, D.undL, und_ints]
section
variable {m : Mem} {rows found : List Row} {svd : List (Key × D)} {begs : List Int} {sv : List Sv} {G : Gx}
theorem turned_ok (hum : m.all (Cell.und m.length) = true) (hf : ∀ r ∈ found, TrOk begs.length r) (hfl : found.length ≤ 100000) (hsv : D.undK (m.length + 4) svd = true) :
    f_Putter_turned [.ptr m.length] (PM m rows svd found begs) = .ok (.tup (trD begs found)) (PM m rows svd found begs) := by
  apply ok_same
  refine def_go rfl ?_
  refine s_cons (s_set ?_)
  simp
  have hmid : ∀ (c : Cell) (l : List D), (PM m rows svd found begs ++ [Cell.lst l])[(PM m rows svd found begs).length]? = some (.lst l) := fun c l => by simp
  have hpre : ∀ (l : List D) (i : Nat) (c : Cell), (PM m rows svd found begs)[i]? = some c → (PM m rows svd found begs ++ [Cell.lst l])[i]? = some c := fun l i c h => by
    rw [List.getElem?_append_left (List.getElem?_eq_some_iff.mp h).1, h]
  obtain ⟨N, hN⟩ : ∃ N : List D → EnvD → Mem → Prop, ∀ ds e mm, N ds e mm ↔ (∃ (l done : List Row) (e2 : Option D), ds = l.map rowD ∧ done ++ l = found ∧ mm = PM m rows svd found begs ++ [.lst (trD begs done)] ∧
    e = [some (.ptr m.length), some (.ptr (PM m rows svd found begs).length), e2]) := ⟨_, fun _ _ _ => Iff.rfl⟩
  have hln : (1000000 : Nat) = line := rfl
  refine s_cons (s_any (x := .ptr (m.length + 2)) (ys := found.map rowD) N (by simp; omega) ?_ ?_ ?_ ?_)
  · simp
    refine ok_eq (lkF (fs := pmF m.length rows) rfl (hpre _ _ _ pm_self) rfl) ⟨rfl, ?_, ?_⟩
    · simp only [getL, hpre _ _ _ pm_found]
    · exact (hN _ _ _).mpr ⟨found, [], _, rfl, rfl, rfl, rfl⟩
  · intro ds e mm hh
    obtain ⟨l, done, e2, _, _, rfl, _⟩ := (hN _ _ _).mp hh
    simp only [getL, hpre _ _ _ pm_found]
  · intro d ds e mm hh
    obtain ⟨l, done, e2, hds, hdl, rfl, rfl⟩ := (hN _ _ _).mp hh
    cases l with
    | nil => cases hds
    | cons r l =>
      cases hds
      have hr := hf r (by rw [← hdl]; simp)
      have hdn : done.length + (l.length + 1) = found.length := by rw [← hdl]; simp
      refine ⟨_, rfl, ?_⟩
      obtain ⟨N1, hN1⟩ : ∃ N1 : EnvD → Mem → Prop, ∀ e mm, N1 e mm ↔ (mm = PM m rows svd found begs ++ [.lst (trD begs done)] ∧ e = [some (.ptr m.length), some (.ptr (PM m rows svd found begs).length), some (rowD (turnB begs r))]) := ⟨_, fun _ _ => Iff.rfl⟩
      refine s_cons (s_cut N1 (s_ite ?_) ?_)
      · rw [w_test, w_cmp, idx_row' (x := r) rfl]
        have hin := fun mm => zg_in (G := g_Putter_turned) (m := mm) hr.str
        by_cases hz : r.1 = "zero" ∨ r.1 = "go"
        · obtain ⟨hne, l0, l1⟩ := hr.goal hz
          rw [decide_eq_true hz] at hin
          simp [hin]
          refine s_last (s_set ?_)
          simp [rowD, row_last r hne]
          refine ok_eq (lkF (fs := pmF m.length rows) rfl (hpre _ _ _ pm_self) rfl) ?_
          have hgb : ∀ l, getL (PM m rows svd found begs ++ [Cell.lst l]) (.ptr (m.length + 3)) = some (begs.map .int) := fun l => by simp only [getL, hpre _ _ _ pm_begs]
          obtain ⟨d, hi, hi2⟩ := atI_get (l := begs.map D.int) l0 (by simpa using l1)
          rw [List.getElem?_map] at hi2
          have hbg : d = .int (bg begs (lst0 r.2)) := by
            obtain ⟨x, hx, rfl⟩ := Option.map_eq_some_iff.mp hi2
            rw [bg, List.getD_eq_getElem?_getD, hx]
            rfl
          rw [i_lst (hgb _)]
          refine ⟨_, hi, ?_⟩
          subst hbg
          have hrw := row_init r hne
          have hcl : (cutD (D.str r.1 :: r.2.map .int) none (some (-1))).length ≤ 4 := by
            rw [cut_last]
            have := hr.len
            simp
            omega
          refine ⟨by omega, ?_⟩
          refine (hN1 _ _).mpr ⟨rfl, ?_⟩
          have e5 : D.tup (cutD (D.str r.1 :: r.2.map .int) none (some (-1)) ++ [D.int (bg begs (lst0 r.2))]) = rowD (turnB begs r) := by
            rw [turnB, if_pos hz]
            injection hrw with hrw
            rw [hrw]
            simp [rowD]
          rw [e5]
        · rw [decide_eq_false hz] at hin
          simp [hin]
          exact s_nil ((hN1 _ _).mpr ⟨rfl, by rw [turnB, if_neg hz]⟩)
      · intro e mm hh
        obtain ⟨rfl, rfl⟩ := (hN1 _ _).mp hh
        refine s_last (s_exp ?_)
        simp
        refine ⟨k_app (xs := trD begs done) (by simp), (m_app (xs := trD begs done) (by simp)).mpr ⟨by rw [trD_len]; omega, ?_⟩⟩
        refine (hN _ _ _).mpr ⟨l, done ++ [r], _, rfl, by simp [hdl], ?_, rfl⟩
        rw [List.set_append_right _ _ (Nat.le_refl _), trD_app]
        simp
  · intro e mm hh
    obtain ⟨l, done, e2, hds, hdl, rfl, rfl⟩ := (hN _ _ _).mp hh
    have hl0 : l = [] := by simpa using hds.symm
    subst hl0
    have hdl : done = found := by simpa using hdl
    subst hdl
    refine s_last (s_ret ?_)
    simp
    rw [l_tupP (xs := trD begs done) (by simp [getL])]
    refine (settle_drop rfl ?_ ?_).mpr ⟨rfl, rfl⟩
    · simp only [D.und, trD]
      exact undL_map fun r _ => und_row' _ r
    · rw [pm_len]
      unfold PM
      rw [List.all_append, Bool.and_eq_true]
      refine ⟨all_up (by omega) hum, ?_⟩
      have h1 : D.undL (m.length + 4) (rows.map rowD) = true := undL_map fun r _ => und_row' _ r
      have h2 : D.undL (m.length + 4) (done.map rowD) = true := undL_map fun r _ => und_row' _ r
      simp [Cell.und, pmF, D.und, D.undL, h1, h2, und_ints, hsv]
end
end Mi

set_option Elab.async false
set_option linter.all false
set_option maxRecDepth 100000
set_option maxHeartbeats 4000000
namespace Mi
open PySem L2 TL
/-! ### a program with saves -/
def rwords : List Str := ["put", "move", "add", "take", "push", "pop", "say", "zero", "go", "call", "back"]
theorem rwords_ok : ∀ w ∈ rwords, PyData.strOk w = true := by decide +kernel
theorem row_tr {n nu : Int} {k : Nat} (hk : (k : Int) = n) {r : Row} (h : Rw n nu r) : TrOk k r := by
  cases h <;> refine ⟨rwords_ok _ (by simp [rwords]), fun z => ?_, by simp⟩ <;> simp at z
  all_goals first | (refine ⟨by simp, by simp [lst0]; omega, by simp [lst0]; omega⟩; done) | skip
theorem tr_push {n : Nat} {b : Int} : TrOk n ("push", [b]) := ⟨rwords_ok _ (by simp [rwords]), (fun z => by simp at z), by simp⟩
theorem tr_pop {n : Nat} {b : Int} : TrOk n ("pop", [b]) := ⟨rwords_ok _ (by simp [rwords]), (fun z => by simp at z), by simp⟩
theorem tr_found {sv : List Sv} {rows : List Row} {n : Nat} (h : ∀ r ∈ rows, TrOk n r) : ∀ (j : Nat), j ≤ rows.length → ∀ r ∈ foundA sv rows j, TrOk n r := by
  have hpsh : ∀ (l : List Int), ∀ r ∈ psh l, TrOk n r := fun l r hr => by
    obtain ⟨b, _, rfl⟩ := List.mem_map.mp hr
    exact tr_push
  have hpps : ∀ (l : List Int), ∀ r ∈ pps l, TrOk n r := fun l r hr => by
    obtain ⟨b, _, rfl⟩ := List.mem_map.mp hr
    exact tr_pop
  intro j
  induction j with
  | zero => intro _ r hr; exact hpsh _ r hr
  | succ j ih =>
    intro hj r hr
    rcases List.mem_append.mp hr with hr | hr
    · exact ih (by omega) r hr
    · unfold layA at hr
      rcases List.mem_append.mp hr with hr | hr
      · exact hpsh _ r hr
      · rcases List.mem_append.mp hr with hr | hr
        · split at hr
          · exact hpps _ r hr
          · cases hr
        · rcases List.mem_append.mp hr with hr | hr
          · rw [List.mem_singleton.mp hr, List.getD_eq_getElem?_getD, List.getElem?_eq_getElem (by omega)]
            exact h _ (List.getElem_mem _)
          · exact hpps _ r hr
theorem turn_eq {sv : List Sv} {rows : List Row} {r : Row} (h : TrOk rows.length r) : turnB ((List.range rows.length).map (begA' sv rows)) r = turnA sv rows r := by
  unfold turnB turnA
  by_cases hz : r.1 = "zero" ∨ r.1 = "go"
  · obtain ⟨_, l0, l1⟩ := h.goal hz
    rw [if_pos hz, if_pos hz]
    have hl : (lst0 r.2).toNat < rows.length := by omega
    have : bg ((List.range rows.length).map (begA' sv rows)) (lst0 r.2) = begA' sv rows (lst0 r.2).toNat := by
      rw [bg, List.getD_eq_getElem?_getD, List.getElem?_map, List.getElem?_range hl]
      rfl
    rw [this]
  · rw [if_neg hz, if_neg hz]
theorem rows_tr {p : Prog} {k : Int} (hp : ProgOk p) (k0 : 0 ≤ k) (k1 : k < p.2.length) : ∀ r ∈ (rtOf p k).2, TrOk (rtOf p k).2.length r := fun r hr => row_tr rfl (row_rw ((rt_ok hp k0 k1).1.2.2.1 r hr))
section
variable {m : Mem} {p : Prog} {k : Int} {sv : List Sv} {sd : D}
theorem with_saves_eq (hp : ProgOk p) (k0 : 0 ≤ k) (k1 : k < p.2.length) (hum : m.all (Cell.und m.length) = true) (hsd : ∀ mm : Mem, getL (m ++ mm) sd = some (sv.map pairD)) (hl : sv.length ≤ 60) : f_with_saves [progD p, .int k, sd] m = .ok (progD (putA p k sv)) m := by
  obtain ⟨hro, hrt⟩ := rt_ok hp k0 k1
  have h6 := hp.2.2.1
  have htr := tr_found (sv := sv) (rows_tr hp k0 k1) _ (Nat.le_refl _)
  have hteq := fun r hr => turn_eq (sv := sv) (htr r hr)
  have hfl := @foundA_len sv (rtOf p k).2 (rtOf p k).2.length
  have hfl2 : (foundA sv (rtOf p k).2 (rtOf p k).2.length).length ≤ 10000 := by
    have h3 := hro.2.1
    have : (rtOf p k).2.length * (3 * sv.length + 1) ≤ 40 * 181 := Nat.mul_le_mul (by omega) (by omega)
    omega
  apply ok_same
  refine def_go rfl ?_
  refine s_cons (s_asg ?_)
  simp [progD]
  refine ⟨_, rfl, ?_⟩
  refine s_cons (s_asg ?_)
  simp [hrt]
  refine ⟨_, rfl, ?_⟩
  refine s_cons (s_set ?_)
  simp
  refine Ok.mono (init_put (m := m) (rows := (rtOf p k).2) hsd hl (by have := hro.2.1; omega)) fun d mm ⟨e1, svd, hun, e2⟩ => ?_
  subst e1 e2
  refine ⟨rfl, ?_⟩
  simp [pm_self]
  refine ⟨by rfl, ?_⟩
  rw [turned_ok hum (fun r hr => by rw [List.length_map, List.length_range]; exact htr r hr) (by omega) (hun _)]
  refine ok_ok.mpr ?_
  have e3 : trD ((List.range (rtOf p k).2.length).map (begA' sv (rtOf p k).2)) (foundA sv (rtOf p k).2 (rtOf p k).2.length) = (rowsA sv (rtOf p k).2).map rowD := by
    unfold trD rowsA
    rw [List.map_congr_left hteq]
  rw [e3]
  refine s_last (s_ret ?_)
  simp
  rw [cut_toI _ k0, cut_fromI _ (by omega), show (k + 1).toNat = k.toNat + 1 by omega]
  have hl1 : ((p.2.map routD).take k.toNat).length ≤ 6 := by simp; omega
  have hl2 : ((p.2.map routD).drop (k.toNat + 1)).length ≤ 6 := by simp; omega
  refine ⟨by omega, by omega, ?_⟩
  have epd : D.tup [D.tup (p.1.map houseD), .tup ((p.2.map routD).take k.toNat ++ (D.tup [.int (rtOf p k).1, .tup ((rowsA sv (rtOf p k).2).map rowD)] :: (p.2.map routD).drop (k.toNat + 1)))] = progD (putA p k sv) := by
    simp [progD, putA, routD, List.map_take, List.map_drop]
  rw [epd]
  exact (settle_drop rfl (und_prog _ _) hum).mpr ⟨rfl, rfl⟩
end
end Mi

set_option Elab.async false
set_option linter.all false
set_option maxRecDepth 100000
set_option maxHeartbeats 4000000
namespace Mi
open PySem L2 TL
/-! ### which saves there may be -/
theorem lc_fmF {α : Type} {body : D → Mem → Res (Option D)} {f : α → D} {g : α → Option D} {m : Mem} {Q : List D → Mem → Prop} {l : List α} (hf : ∀ a ∈ l, body (f a) m = .ok (g a) m) (hl : l.length < 1000000) (q : Q (l.filterMap g) m) : Ok (lcIt body (.fix (l.map f)) m) Q := by
  show Ok (lcFix body (l.map f) [] m) Q
  have go : ∀ (l : List α) (acc : List D), (∀ a ∈ l, body (f a) m = .ok (g a) m) → acc.length + l.length < 1000000 → lcFix body (l.map f) acc m = .ok (acc ++ l.filterMap g) m := by
    intro l
    induction l with
    | nil => intro acc _ _; simp [lcFix]
    | cons d r ih =>
      intro acc h hl
      rw [List.length_cons] at hl
      rw [List.map_cons, lcFix, h d List.mem_cons_self, Res.bind_ok]
      cases hx : g d with
      | none =>
        simp only
        rw [ih acc (fun x hx => h x (List.mem_cons_of_mem _ hx)) (by omega), List.filterMap_cons, hx]
      | some x =>
        simp only
        rw [if_pos (show acc.length < line by show _ < 1000000; omega), ih (acc ++ [x]) (fun x hx => h x (List.mem_cons_of_mem _ hx)) (by rw [List.length_append, List.length_singleton]; omega), List.filterMap_cons, hx]
        simp
  rw [go l [] hf (by simpa using hl)]
  exact ok_ok.mpr q
theorem fm_filter {α β : Type} (l : List α) (p : α → Bool) (f : α → β) {g : α → Option β} (h : ∀ a, g a = if p a = true then some (f a) else none) : l.filterMap g = (l.filter p).map f := by
  induction l with
  | nil => rfl
  | cons a l ih =>
    rw [List.filterMap_cons, h a, List.filter_cons]
    by_cases hp : p a = true
    · rw [if_pos hp, if_pos hp, List.map_cons, ih]
    · rw [if_neg hp, if_neg hp, ih]
theorem shaped_pairs (l : List Sv) : SeqAt.shaped (.list (l.map fun s => PyData.tuple [.int s.1, .int s.2])) = true := by
  have h1 : PyData.canLayAll0 (l.map fun s => PyData.tuple [.int s.1, .int s.2]) = true := by
    induction l with
    | nil => rfl
    | cons s l ih => simp [PyData.canLayAll0, PyData.canLay0, ih]
  have h2 : PyData.depthAll (l.map fun s => PyData.tuple [.int s.1, .int s.2]) ≤ 1 := by
    clear h1
    induction l with
    | nil => simp [PyData.depthAll]
    | cons s l ih =>
      simp [PyData.depthAll, PyData.depth] at ih ⊢
      omega
  simp [SeqAt.shaped, PyData.canLay0, PyData.depth, h1]
  omega
theorem any_pairs {m : Mem} {s : Sv} {l : List Sv} : anyEq m (pairD s) (l.map pairD) = some (decide (s ∈ l)) := by
  unfold anyEq
  rw [pairs_py]
  have h1 : (pairD s).pyM m = some (.tuple [.int s.1, .int s.2]) := rfl
  have h2 : SeqAt.shaped (.tuple [.int s.1, .int s.2]) = true := by simp [SeqAt.shaped, PyData.canLay0, PyData.canLayAll0, PyData.depth, PyData.depthAll]
  rw [h1]
  simp only [shaped_pairs, h2, Bool.and_self, if_true, Option.some.injEq]
  rw [Bool.eq_iff_iff]
  simp only [List.any_eq_true, decide_eq_true_eq, List.mem_map]
  constructor
  · rintro ⟨_, ⟨t, ht, rfl⟩, h⟩
    have : t.1 = s.1 ∧ t.2 = s.2 := by simpa [PyData.eqv, PyData.eqvAll] using h
    have e : t = s := Prod.ext this.1 this.2
    exact e ▸ ht
  · exact fun h => ⟨_, ⟨s, h, rfl⟩, by simp [PyData.eqv, PyData.eqvAll]⟩
theorem eqv_pairs : ∀ l k : List Sv, PyData.eqvAll (l.map fun s => PyData.tuple [.int s.1, .int s.2]) (k.map fun s => PyData.tuple [.int s.1, .int s.2]) = decide (l = k)
  | [], [] => rfl
  | [], _ :: _ => rfl
  | _ :: _, [] => rfl
  | i :: l, j :: k => by
    rw [Bool.eq_iff_iff]
    simp [PyData.eqvAll, PyData.eqv, eqv_pairs l k, Prod.ext_iff]
theorem eq_pairs {m : Mem} {x y : D} {l k : List Sv} (h1 : getL m x = some (l.map pairD)) (h2 : getL m y = some (k.map pairD)) : eqM m x y = some (decide (l = k)) := by
  rw [eqM_lists h1 h2]
  by_cases hl : l.length = k.length
  · rw [if_neg (by simpa using hl)]
    unfold eqP
    rw [pyM_of h1, pyM_of h2, pairs_py, pairs_py]
    simp [shaped_pairs, PyData.eqv, eqv_pairs]
  · rw [if_pos (by simpa using hl)]
    have : l ≠ k := fun e => hl (by rw [e])
    simp [this]
def outA (p : Prog) (u : Int) : Int := (hoOf p u).2.1
def sixB (o : Int) : List Int := six.filter fun b => decide (b ≠ o)
def callsA (rows : List Row) : List Nat := (List.range rows.length).filter fun j => decide ((rows.getD j ("back", [])).1 = "call")
def aboutA (p : Prog) (rows : List Row) (j : Nat) : List Sv := (sixB (outA p (bg (rows.getD j ("back", [])).2 0))).map fun b => ((j : Int), b)
def allS (p : Prog) (k : Int) : List Sv := (sixB (outA p k)).map (fun b => ((-1 : Int), b)) ++ (callsA (rtOf p k).2).flatMap (aboutA p (rtOf p k).2)
section
variable {m : Mem} {p : Prog} {k : Int}
theorem row_getD {rows : List Row} {j : Nat} (h : j < rows.length) : atI (rows.map rowD) (j : Int) = some (rowD (rows.getD j ("back", []))) := by
  rw [atI_nat, List.getElem?_map, List.getElem?_eq_getElem h, List.getD_eq_getElem?_getD, List.getElem?_eq_getElem h]
  rfl
theorem idx_rowW {G : Gx} {m : Mem} {Q : D → Mem → Prop} {r : Row} : Ok (idxD G (rowD r) (.int 0) m) Q ↔ Q (.str r.1) m := by simp [rowD]
theorem calls_of_eq (hp : ProgOk p) (k0 : 0 ≤ k) (k1 : k < p.2.length) : f_calls_of [progD p, .int k] m = .ok (.lst ((callsA (rtOf p k).2).map fun j => D.int (j : Nat))) m := by
  obtain ⟨hro, hrt⟩ := rt_ok hp k0 k1
  have hlen := hro.2.1
  apply ok_same
  refine def_go rfl ?_
  refine s_cons (s_set ?_)
  simp [progD, hrt, routD]
  refine s_last (s_ret ?_)
  simp
  refine ⟨_, rng_n (n := (rtOf p k).2.length) (by omega), ?_⟩
  refine lc_filtF (f := fun j : Nat => D.int (j : Nat)) (p := fun j => decide (((rtOf p k).2.getD j ("back", [])).1 = "call")) (l := List.range (rtOf p k).2.length) (fun j hj => ?_) (by simp; omega) ?_
  · have hrow := row_getD (List.mem_range.mp hj)
    generalize (rtOf p k).2.getD j ("back", []) = r at hrow ⊢
    refine ok_same (lc_body rfl ?_)
    by_cases hc : r.1 = "call" <;> simp [wipeE, hrow, idx_rowW, hc]
  · simp [settle_at, callsA]
theorem all_saves_eq (hp : ProgOk p) (k0 : 0 ≤ k) (k1 : k < p.2.length) : f_all_saves [progD p, .int k] m = .ok (.ptr m.length) (m ++ [.lst ((allS p k).map pairD)]) := by
  obtain ⟨hro, hrt⟩ := rt_ok hp k0 k1
  have hlen := hro.2.1
  apply ok_same
  refine def_go rfl ?_
  refine s_cons (s_set ?_)
  simp [progD, hrt, routD]
  refine s_cons (s_set ?_)
  simp
  refine ⟨_, rng6, ?_⟩
  have epd : D.tup [D.tup (p.1.map houseD), .tup (p.2.map routD)] = progD p := rfl
  refine lc_fmF (f := D.int) (g := fun b => if b ≠ outA p k then some (pairD (-1, b)) else none) (l := [0, 1, 2, 3, 4, 5]) (fun b _ => ?_) (by simp) ?_
  · refine ok_same (lc_body rfl ?_)
    by_cases hb : b = (hoOf p k).2.1 <;> simp [wipeE, epd, house_of_eq hp k0 k1, houseD, outA, pairD, hb]
  have hsix : ([0, 1, 2, 3, 4, 5] : List Int).filterMap (fun b => if b ≠ outA p k then some (pairD (-1, b)) else none) = ((sixB (outA p k)).map fun b => ((-1 : Int), b)).map pairD := by
    rw [List.map_map]
    exact fm_filter six (fun b => decide (b ≠ outA p k)) (fun b => pairD (-1, b)) fun b => by by_cases h : b = outA p k <;> simp [h]
  rw [hsix]
  obtain ⟨N, hN⟩ : ∃ N : List D → EnvD → Mem → Prop, ∀ ds e mm, N ds e mm ↔ (∃ (l done : List Nat) (e4 e5 e6 : Option D), ds = l.map (fun j => D.int (j : Nat)) ∧ done ++ l = callsA (rtOf p k).2 ∧ mm = m ++ [.lst (((sixB (outA p k)).map (fun b => ((-1 : Int), b)) ++ done.flatMap (aboutA p (rtOf p k).2)).map pairD)] ∧
    e = [some (progD p), some (.int k), some (.tup ((rtOf p k).2.map rowD)), some (.ptr m.length), e4, e5, e6]) := ⟨_, fun _ _ _ => Iff.rfl⟩
  have hcl : (callsA (rtOf p k).2).length ≤ 32 := by
    unfold callsA
    refine Nat.le_trans (List.length_filter_le _ _) ?_
    simp; omega
  have hsb : ∀ o, (sixB o).length ≤ 6 := fun o => List.length_filter_le _ _
  have hfl : ∀ l : List Nat, (l.flatMap (aboutA p (rtOf p k).2)).length ≤ 6 * l.length := by
    intro l
    induction l with
    | nil => simp
    | cons j l ih =>
      have := hsb (outA p (bg ((rtOf p k).2.getD j ("back", [])).2 0))
      rw [List.flatMap_cons, List.length_append, List.length_cons]
      simp only [aboutA, List.length_map] at ih ⊢
      omega
  refine s_cons (s_for N ?_ ?_ ?_)
  · simp
    rw [epd]
    simp [calls_of_eq hp k0 k1]
    exact (hN _ _ _).mpr ⟨_, [], _, _, _, rfl, rfl, by simp, rfl⟩
  · intro d ds e mm hh
    obtain ⟨l, done, e4, e5, e6, hds, hdl, rfl, rfl⟩ := (hN _ _ _).mp hh
    cases l with
    | nil => cases hds
    | cons j l =>
      cases hds
      have hjc : j ∈ callsA (rtOf p k).2 := by rw [← hdl]; simp
      have hdn : done.length + (l.length + 1) ≤ 32 := by rw [← hdl] at hcl; simpa using hcl
      have hjl : j < (rtOf p k).2.length := by
        unfold callsA at hjc
        exact List.mem_range.mp (List.mem_filter.mp hjc).1
      have hjw : ((rtOf p k).2.getD j ("back", [])).1 = "call" := by
        unfold callsA at hjc
        exact of_decide_eq_true (List.mem_filter.mp hjc).2
      have hrow := row_getD hjl
      have hrw := (row_at2 hp k0 k1 (a := (j : Int)) ⟨by omega, by omega⟩).1
      have hrr : rowOf p k (j : Int) = (rtOf p k).2.getD j ("back", []) := by simp [rowOf]
      rw [hrr] at hrw
      have hab : aboutA p (rtOf p k).2 j = (sixB (outA p (bg ((rtOf p k).2.getD j ("back", [])).2 0))).map fun b => ((j : Int), b) := rfl
      generalize (rtOf p k).2.getD j ("back", []) = r at hrow hrw hjw hab
      refine ⟨_, rfl, ?_⟩
      cases hrw <;> simp at hjw
      rename_i u u0 u1
      have hab : aboutA p (rtOf p k).2 j = (sixB (outA p u)).map fun b => ((j : Int), b) := hab
      refine s_cons (s_set ?_)
      simp [hrow, rowD, house_of_eq hp u0 u1, houseD]
      refine s_last (s_exp ?_)
      simp
      have hcell : ∀ l : List D, (m ++ [Cell.lst l])[m.length]? = some (.lst l) := fun l => by simp
      refine ⟨k_ext (hcell _), _, rng6, ?_⟩
      refine lc_fmF (f := D.int) (g := fun b => if b ≠ outA p u then some (pairD (j, b)) else none) (l := [0, 1, 2, 3, 4, 5]) (fun b _ => ?_) (by simp) ?_
      · refine ok_same (lc_body rfl ?_)
        by_cases hb : b = (hoOf p u).2.1 <;> simp [wipeE, outA, pairD, hb]
      have hsix2 : ([0, 1, 2, 3, 4, 5] : List Int).filterMap (fun b => if b ≠ outA p u then some (pairD (j, b)) else none) = ((sixB (outA p u)).map fun b => ((j : Int), b)).map pairD := by
        rw [List.map_map]
        exact fm_filter six (fun b => decide (b ≠ outA p u)) (fun b => pairD (j, b)) fun b => by by_cases h : b = outA p u <;> simp [h]
      rw [hsix2]
      simp
      have h1 := hsb (outA p k)
      have h2 := hsb (outA p u)
      have h3 := hfl done
      refine (m_ext (hcell _) rfl).mpr ⟨by simp at h3 ⊢; omega, ?_⟩
      refine (hN _ _ _).mpr ⟨l, done ++ [j], _, _, _, rfl, by simp [hdl], ?_, rfl⟩
      rw [List.flatMap_append, List.flatMap_singleton, hab]
      simp
  · intro e mm hh
    obtain ⟨l, done, e4, e5, e6, hds, hdl, rfl, rfl⟩ := (hN _ _ _).mp hh
    have hl0 : l = [] := by simpa using hds.symm
    subst hl0
    have hdl : done = callsA (rtOf p k).2 := by simpa using hdl
    subst hdl
    refine s_last (s_ret ?_)
    simp
    refine (settle_keepD (by simp [D.und])).mpr ⟨rfl, ?_⟩
    simp [allS]
end
end Mi

set_option Elab.async false
set_option linter.all false
set_option maxRecDepth 100000
set_option maxHeartbeats 4000000
namespace Mi
open PySem L2 TL
/-! ### saves judged, put in -/
theorem in_six' {x : Int} : x ∈ six ↔ 0 ≤ x ∧ x < 6 := by
  simp [six]
  omega
theorem exc_at {r : Res D} {x : Str} {m : Mem} (h : OkX r (fun _ _ => False) fun y m' => y = ⟨x, []⟩ ∧ m' = m) : r = .exc ⟨x, []⟩ m := by
  rcases h.of with ⟨_, _, _, z⟩ | ⟨y, m', rfl, rfl, rfl⟩
  · exact z.elim
  · rfl
theorem allS_in {p : Prog} {k : Int} (hp : ProgOk p) (k0 : 0 ≤ k) (k1 : k < p.2.length) {s : Sv} (h : s ∈ allS p k) : -1 ≤ s.1 ∧ s.1 < 32 ∧ 0 ≤ s.2 ∧ s.2 < 6 := by
  obtain ⟨hro, _⟩ := rt_ok hp k0 k1
  have hlen := hro.2.1
  have hb : ∀ o b, b ∈ sixB o → 0 ≤ b ∧ b < 6 := fun o b hb => in_six'.mp (List.mem_filter.mp hb).1
  rcases List.mem_append.mp h with h | h
  · obtain ⟨b, h1, rfl⟩ := List.mem_map.mp h
    have := hb _ _ h1
    exact ⟨by dsimp only; omega, by dsimp only; omega, this⟩
  · obtain ⟨j, hj, h2⟩ := List.mem_flatMap.mp h
    obtain ⟨b, h1, rfl⟩ := List.mem_map.mp h2
    have := hb _ _ h1
    have hjl : j < (rtOf p k).2.length := by
      unfold callsA at hj
      exact List.mem_range.mp (List.mem_filter.mp hj).1
    exact ⟨by dsimp only; omega, by dsimp only; omega, this⟩
section
variable {m : Mem} {p : Prog} {k : Int} {sv : List Sv} {sd : D}
theorem is_save_eq (hp : ProgOk p) (k0 : 0 ≤ k) (k1 : k < p.2.length) {mm : Mem} {j : Nat} (hj : mm[j]? = some (.lst ((allS p k).map pairD))) (s : Sv) : f_is_save [pairD s, .ptr j] mm = .ok (.bl (decide (s ∈ allS p k))) mm := by
  have hin : inD g_is_save (pairD s) (.ptr j) mm = some (decide (s ∈ allS p k)) := by
    have hg : getL mm (.ptr j) = some ((allS p k).map pairD) := by simp only [getL, hj]
    have : inD g_is_save (pairD s) (.ptr j) mm = anyEq mm (pairD s) ((allS p k).map pairD) := by
      show (match getL mm (.ptr j) with | some ys => anyEq mm (pairD s) ys | none => _) = _
      rw [hg]
    rw [this, any_pairs]
  have hb := fun h => allS_in hp k0 k1 (s := s) h
  apply ok_same
  refine def_go rfl ?_
  refine s_cons (s_ite ?_)
  simp [pairD, isaD]
  refine s_next (s_last (s_ret ?_))
  simp [pairD] at hin
  by_cases h1 : -1 ≤ s.1 ∧ s.1 ≤ 32
  · by_cases h2 : 0 ≤ s.2 ∧ s.2 ≤ 5
    · by_cases hm : s ∈ allS p k <;> simp [is_number_eq, h1, h2, hin, settle_at, hm]
    · have hn : s ∉ allS p k := fun h => h2 (by have := hb h; omega)
      simp [is_number_eq, h1, h2, hn, settle_at]
  · have hn : s ∉ allS p k := fun h => h1 (by have := hb h; omega)
    simp [is_number_eq, h1, hn, settle_at]
theorem is_save_odd {mm : Mem} {l : List D} {d : D} (hl : l.length ≠ 2) : f_is_save [.tup l, d] mm = .ok (.bl false) mm := by
  apply ok_same
  refine def_go rfl ?_
  have hl' : ¬ (l.length : Int) = 2 := by omega
  refine s_cons (s_ite ?_)
  simp [isaD, hl']
  refine s_last (s_ret ?_)
  simp [settle_at]
/-- whether an item is a save -/
inductive Item (p : Prog) (k : Int) : D → Bool → Prop
  | pair (s : Sv) : Item p k (pairD s) (decide (s ∈ allS p k))
  | odd (l : List D) : l.length ≠ 2 → Item p k (.tup l) false
theorem Item.eq (hp : ProgOk p) (k0 : 0 ≤ k) (k1 : k < p.2.length) {mm : Mem} {j : Nat} (hj : mm[j]? = some (.lst ((allS p k).map pairD))) {d : D} {b : Bool} (h : Item p k d b) : f_is_save [d, .ptr j] mm = .ok (.bl b) mm := by
  cases h with
  | pair s => exact is_save_eq hp k0 k1 hj s
  | odd l hl => exact is_save_odd hl
theorem getL_app {mm : Mem} {c : Cell} {x : D} {xs : List D} (h : getL mm x = some xs) : getL (mm ++ [c]) x = some xs := by
  rcases getL_of h with rfl | ⟨p, rfl, e⟩
  · rfl
  · simp only [getL]
    rw [List.getElem?_append_left (List.getElem?_eq_some_iff.mp e).1, e]
/-- a comprehension over a list, known or in memory -/
theorem lc_anyF {α : Type} {body : D → Mem → Res (Option D)} {f : α → D} {g : α → Option D} {m : Mem} {Q : List D → Mem → Prop} {l : List α} {x : D} {J : Itd} (hx : getL m x = some (l.map f)) (hJ : itSeq x m = some J) (hf : ∀ a ∈ l, body (f a) m = .ok (g a) m) (hl : l.length < 1000000) (q : Q (l.filterMap g) m) : Ok (lcIt body J m) Q := by
  rcases getL_of hx with rfl | ⟨n, rfl, e⟩
  · cases hJ
    exact lc_fmF hf hl q
  · have : J = .liv n := by
      simp only [itSeq, e] at hJ
      exact (Option.some.inj hJ).symm
    subst this
    show Ok (lcLiv body n line 0 [] m) Q
    have go : ∀ (k i : Nat) (acc : List D), l.length ≤ i + k → i ≤ l.length → acc.length ≤ i → lcLiv body n k i acc m = .ok (acc ++ (l.drop i).filterMap g) m := by
      intro k
      induction k with
      | zero =>
        intro i acc h1 h2 h3
        rw [lcLiv_eq, e]
        have : i = l.length := by omega
        subst this
        simp
      | succ k ih =>
        intro i acc h1 h2 h3
        rw [lcLiv_eq, e]
        simp only [List.getElem?_map]
        by_cases hi : i < l.length
        · rw [List.getElem?_eq_getElem hi]
          simp only [Option.map_some]
          rw [hf _ (List.getElem_mem hi), Res.bind_ok, List.drop_eq_getElem_cons hi, List.filterMap_cons]
          cases g l[i] with
          | none =>
            simp only
            rw [ih (i + 1) acc (by omega) (by omega) (by omega)]
          | some d =>
            simp only
            rw [if_pos (show acc.length < line by show _ < 1000000; omega), ih (i + 1) _ (by omega) (by omega) (by simp; omega)]
            simp
        · have : i = l.length := by omega
          subst this
          simp
    rw [go line 0 [] (by show _ ≤ 0 + 1000000; omega) (Nat.zero_le _) (by simp)]
    exact ok_ok.mpr q
theorem it_any {m : Mem} {x : D} {xs : List D} (h : getL m x = some xs) : ∃ J, itSeq x m = some J := by
  rcases getL_of h with rfl | ⟨n, rfl, e⟩
  · exact ⟨_, rfl⟩
  · exact ⟨.liv n, by simp only [itSeq, e]⟩
theorem need_saves_ok (hp : ProgOk p) (k0 : 0 ≤ k) (k1 : k < p.2.length) (hum : m.all (Cell.und m.length) = true) (hsd : getL m sd = some (sv.map pairD)) (hl : sv.length ≤ 60) (hv : ∀ s ∈ sv, s ∈ allS p k) (hso : sortSetP sv = sv) : f_need_saves [progD p, .int k, sd] m = .ok .non m := by
  have hg : getL (m ++ [Cell.lst ((allS p k).map pairD)]) sd = some (sv.map pairD) := getL_app hsd
  obtain ⟨J, hJ⟩ := it_any hg
  have hcell : (m ++ [Cell.lst ((allS p k).map pairD)])[m.length]? = some (.lst ((allS p k).map pairD)) := by simp
  have hpd : pairsD (sv.map pairD) = some sv := by
    clear hsd hl hv hso hg hJ
    induction sv with
    | nil => rfl
    | cons s sv ih => simp [pairsD, pairD] at ih ⊢; simp [ih]
  have hlof : lofD sd (m ++ [Cell.lst ((allS p k).map pairD)]) = some (sv.map pairD) := by
    rcases getL_of hg with rfl | ⟨n, rfl, e⟩
    · rfl
    · simp only [lofD, getL, e]
  apply ok_same
  refine def_go rfl ?_
  refine s_cons (s_set ?_)
  simp [all_saves_eq hp k0 k1]
  refine s_cons (s_ite ?_)
  simp [hJ]
  refine lc_anyF (f := pairD) (g := fun _ => none) hg hJ (fun s hs => ?_) (by omega) ?_
  · refine ok_same (lc_body rfl ?_)
    simp [wipeE, is_save_eq hp k0 k1 hcell, hv s hs]
  simp
  refine s_next (s_last (s_ite ?_))
  simp [hlof]
  have hsr : srpD sd (m ++ [Cell.lst ((allS p k).map pairD)]) = .ok (.lst (sv.map pairD)) (m ++ [Cell.lst ((allS p k).map pairD)]) := by
    simp only [srpD, hg, hpd, hl, if_true, hso]
  rw [hsr]
  have heq := eq_pairs (m := m ++ [Cell.lst ((allS p k).map pairD)]) (x := .lst (sv.map pairD)) (y := .lst (sv.map pairD)) (l := sv) (k := sv) rfl rfl
  simp [heq]
  exact s_nil (by rw [pd_nx]; exact (settle_drop rfl rfl hum).mpr ⟨rfl, rfl⟩)
/-- refused: an item is none -/
theorem need_saves_bad (hp : ProgOk p) (k0 : 0 ≤ k) (k1 : k < p.2.length) {l : List (D × Bool)} (hsd : getL m sd = some (l.map (·.1))) (hl : l.length ≤ 60) (hv : ∀ x ∈ l, Item p k x.1 x.2) (hb : ∃ x ∈ l, x.2 = false) : f_need_saves [progD p, .int k, sd] m = .exc ⟨"BadSaves", []⟩ (m ++ [.lst ((allS p k).map pairD)]) := by
  have hg : getL (m ++ [Cell.lst ((allS p k).map pairD)]) sd = some (l.map (·.1)) := getL_app hsd
  obtain ⟨J, hJ⟩ := it_any hg
  have hcell : (m ++ [Cell.lst ((allS p k).map pairD)])[m.length]? = some (.lst ((allS p k).map pairD)) := by simp
  apply exc_at
  refine def_goX rfl ?_
  refine s_cons (s_set ?_)
  simp [all_saves_eq hp k0 k1]
  refine s_cons (s_ite ?_)
  simp [hJ]
  refine lc_anyF (f := fun x : D × Bool => x.1) (g := fun x => if x.2 = true then none else some x.1) hg hJ (fun x hx => ?_) (by omega) ?_
  · refine ok_same (lc_body rfl ?_)
    obtain ⟨d, b⟩ := x
    have := Item.eq hp k0 k1 hcell (hv _ hx)
    cases b <;> simp [wipeE, this]
  have hne : (l.filterMap fun x => if x.2 = true then none else some x.1) ≠ [] := fun e => by
    obtain ⟨x, hx, hx2⟩ := hb
    have := List.filterMap_eq_nil_iff.mp e x hx
    simp [hx2] at this
  have hemp : (l.filterMap fun x => if x.2 = true then none else some x.1).isEmpty = false := by simpa using hne
  exact .inl ⟨hne, s_last (s_rse (by decide) rfl ⟨rfl, rfl⟩)⟩
/-- refused: they don't rise -/
theorem need_saves_rise (hp : ProgOk p) (k0 : 0 ≤ k) (k1 : k < p.2.length) (hsd : getL m sd = some (sv.map pairD)) (hl : sv.length ≤ 60) (hv : ∀ s ∈ sv, s ∈ allS p k) (hso : sortSetP sv ≠ sv) : f_need_saves [progD p, .int k, sd] m = .exc ⟨"BadSaves", []⟩ (m ++ [.lst ((allS p k).map pairD)]) := by
  have hg : getL (m ++ [Cell.lst ((allS p k).map pairD)]) sd = some (sv.map pairD) := getL_app hsd
  obtain ⟨J, hJ⟩ := it_any hg
  have hcell : (m ++ [Cell.lst ((allS p k).map pairD)])[m.length]? = some (.lst ((allS p k).map pairD)) := by simp
  have hpd : pairsD (sv.map pairD) = some sv := by
    clear hsd hl hv hso hg hJ
    induction sv with
    | nil => rfl
    | cons s sv ih => simp [pairsD, pairD] at ih ⊢; simp [ih]
  have hlof : lofD sd (m ++ [Cell.lst ((allS p k).map pairD)]) = some (sv.map pairD) := by
    rcases getL_of hg with rfl | ⟨n, rfl, e⟩
    · rfl
    · simp only [lofD, getL, e]
  apply exc_at
  refine def_goX rfl ?_
  refine s_cons (s_set ?_)
  simp [all_saves_eq hp k0 k1]
  refine s_cons (s_ite ?_)
  simp [hJ]
  refine lc_anyF (f := pairD) (g := fun _ => none) hg hJ (fun s hs => ?_) (by omega) ?_
  · refine ok_same (lc_body rfl ?_)
    simp [wipeE, is_save_eq hp k0 k1 hcell, hv s hs]
  simp
  refine s_next (s_last (s_ite ?_))
  simp [hlof]
  have hsr : srpD sd (m ++ [Cell.lst ((allS p k).map pairD)]) = .ok (.lst ((sortSetP sv).map pairD)) (m ++ [Cell.lst ((allS p k).map pairD)]) := by
    simp only [srpD, hg, hpd, hl, if_true]
  rw [hsr]
  have heq := eq_pairs (m := m ++ [Cell.lst ((allS p k).map pairD)]) (x := .lst (sv.map pairD)) (y := .lst ((sortSetP sv).map pairD)) (l := sv) (k := sortSetP sv) rfl rfl
  rw [decide_eq_false (fun e => hso e.symm)] at heq
  simp [heq]
  exact s_last (s_rse (by decide) rfl ⟨rfl, rfl⟩)
theorem need_bothQ (hp : ProgOk p) (k0 : 0 ≤ k) (k1 : k < p.2.length) : f_need_both [progD p, .int k] m = .ok .non m := by
  apply ok_same
  refine def_go rfl ?_
  refine s_cons (s_exp ?_)
  simp [need_program_eq hp]
  refine s_last (s_ite ?_)
  have h1 : (0 : Int) ≤ k ∧ k ≤ (p.2.length : Int) - 1 := by omega
  simp [progD, is_number_eq, h1]
  exact s_nil (by rw [pd_nx, settle_at rfl]; exact ⟨rfl, rfl⟩)
theorem putA_at {p : Prog} {k : Int} {sv : List Sv} (k0 : 0 ≤ k) (k1 : k < p.2.length) : atI ((putA p k sv).2.map routD) k = some (routD ((rtOf p k).1, rowsA sv (rtOf p k).2)) := by
  have hk : k.toNat < p.2.length := by omega
  have e : (k.toNat : Int) = k := by omega
  have e1 : (putA p k sv).2[k.toNat]? = some ((rtOf p k).1, rowsA sv (rtOf p k).2) := by
    simp only [putA]
    rw [List.append_assoc, List.getElem?_append_right (by simp; exact Nat.min_le_left _ _)]
    simp [Nat.min_eq_left (Nat.le_of_lt hk)]
  rw [← e, atI_nat, List.getElem?_map]
  simp only [e]
  rw [e1]
  rfl
theorem put_in_ok (hp : ProgOk p) (k0 : 0 ≤ k) (k1 : k < p.2.length) (hum : m.all (Cell.und m.length) = true) (hsd : getL m sd = some (sv.map pairD)) (hsx : ∀ mm, getL (m ++ mm) sd = some (sv.map pairD)) (hl : sv.length ≤ 60) (hv : ∀ s ∈ sv, s ∈ allS p k) (hso : sortSetP sv = sv) (h32 : (rowsA sv (rtOf p k).2).length ≤ 32) :
    f_put_in [progD p, .int k, sd] m = .ok (progD (putA p k sv)) m := by
  apply ok_same
  refine def_go rfl ?_
  refine s_cons (s_exp ?_)
  simp [need_bothQ hp k0 k1]
  refine s_cons (s_exp ?_)
  simp [need_saves_ok hp k0 k1 hum hsd hl hv hso]
  refine s_cons (s_set ?_)
  simp [with_saves_eq hp k0 k1 hum hsx hl]
  refine s_cons (s_ite ?_)
  have h := putA_at (p := p) (k := k) (sv := sv) k0 k1
  have h3 : ¬ (32 : Int) < (rowsA sv (rtOf p k).2).length := by omega
  simp [progD, h, routD, h3]
  refine ⟨by omega, s_next (s_last (s_ret ?_))⟩
  simp
  rw [settle_at rfl]
  exact ⟨rfl, rfl⟩
theorem put_in_many (hp : ProgOk p) (k0 : 0 ≤ k) (k1 : k < p.2.length) (hum : m.all (Cell.und m.length) = true) (hsd : getL m sd = some (sv.map pairD)) (hsx : ∀ mm, getL (m ++ mm) sd = some (sv.map pairD)) (hl : sv.length ≤ 60) (hv : ∀ s ∈ sv, s ∈ allS p k) (hso : sortSetP sv = sv) (h32 : 32 < (rowsA sv (rtOf p k).2).length) :
    f_put_in [progD p, .int k, sd] m = .exc ⟨"BadSaves", []⟩ m := by
  apply exc_at
  refine def_goX rfl ?_
  refine s_cons (s_exp ?_)
  simp [need_bothQ hp k0 k1]
  refine s_cons (s_exp ?_)
  simp [need_saves_ok hp k0 k1 hum hsd hl hv hso]
  refine s_cons (s_set ?_)
  simp [with_saves_eq hp k0 k1 hum hsx hl]
  refine s_cons (s_ite ?_)
  have h := putA_at (p := p) (k := k) (sv := sv) k0 k1
  have h3 : (32 : Int) < (rowsA sv (rtOf p k).2).length := by omega
  simp [progD, h, routD, h3]
  exact .inr (s_last (s_rse (by decide) rfl ⟨rfl, rfl⟩))
theorem put_in_bad (hp : ProgOk p) (k0 : 0 ≤ k) (k1 : k < p.2.length) (h : f_need_saves [progD p, .int k, sd] m = .exc ⟨"BadSaves", []⟩ (m ++ [.lst ((allS p k).map pairD)])) :
    f_put_in [progD p, .int k, sd] m = .exc ⟨"BadSaves", []⟩ (m ++ [.lst ((allS p k).map pairD)]) := by
  apply exc_at
  refine def_goX rfl ?_
  refine s_cons (s_exp ?_)
  simp [need_bothQ hp k0 k1]
  refine s_cons (s_expX (x_call rfl rfl ?_))
  simp [h]
end
end Mi

set_option Elab.async false
set_option linter.all false
set_option maxRecDepth 100000
set_option maxHeartbeats 4000000
namespace Mi
open PySem L2 TL
/-! ### the law's own putting in -/
theorem atP_fm (sv : List Sv) (a : Int) : sv.filterMap (fun s => if s.1 = a then some (D.int s.2) else none) = (atP sv a).map .int := by
  unfold atP
  rw [List.map_map]
  exact fm_filter sv (fun s => decide (s.1 = a)) (fun s => D.int s.2) fun s => by by_cases h : s.1 = a <;> simp [h]
theorem eq_back {n nu : Int} {r : Row} {m : Mem} (h : Rw n nu r) : eqM m (rowD r) (.tup [.str "back"]) = some (decide (r.1 = "back")) := by
  have hok := rwords_ok
  have key : ∀ (w : Str) (l : List Int), w ∈ rwords → eqM m (.tup (.str w :: l.map .int)) (.tup [.str "back"]) = some (decide (w = "back" ∧ l = [])) := fun w l hw => by
    show (if lenNe m (.tup (.str w :: l.map .int)) (.tup [.str "back"]) then some false else eqP m _ _) = _
    have hl : lenNe m (.tup (.str w :: l.map .int)) (.tup [.str "back"]) = false := rfl
    rw [hl]
    have h1 : D.pyM m (.tup (.str w :: l.map .int)) = some (.tuple (.str w :: l.map PyData.int)) := by simp [D.pyM, D.pys?, D.py?, ints_py]
    have h2 : D.pyM m (.tup [.str "back"]) = some (.tuple [.str "back"]) := rfl
    have h3 : SeqAt.shaped (.tuple (.str w :: l.map PyData.int)) = true := by simp [SeqAt.shaped, PyData.canLay0, PyData.canLayAll0, PyData.depth, PyData.depthAll, lay_ints, dep_ints, hok w hw]
    have h4 : SeqAt.shaped (.tuple [.str "back"]) = true := by simp [SeqAt.shaped, PyData.canLay0, PyData.canLayAll0, PyData.depth, PyData.depthAll, hok "back" (by simp [rwords])]
    simp only [eqP, h1, h2, h3, h4, Bool.and_self, if_true]
    cases l with
    | nil =>
      have e1 : (w == ("back" : Str)) = decide (w = "back") := by rw [Bool.eq_iff_iff]; simp
      simp [PyData.eqv, PyData.eqvAll, e1]
    | cons a l => simp [PyData.eqv, PyData.eqvAll]
  cases h <;> (simp only [rowD]; rw [key _ _ (by simp [rwords])]; simp)
def QM (m : Mem) (found : List Row) (begs : List Int) : Mem := m ++ [.lst (found.map rowD), .lst (begs.map .int)]
section
variable {m : Mem} {p : Prog} {k : Int} {sv : List Sv} {found : List Row} {begs : List Int}
theorem qm_found : (QM m found begs)[m.length]? = some (.lst (found.map rowD)) := mid_get
theorem qm_begs : (QM m found begs)[m.length + 1]? = some (.lst (begs.map .int)) := by rw [QM, app_get]; rfl
theorem qm_setF {f' : List Row} : (QM m found begs).set m.length (.lst (f'.map rowD)) = QM m f' begs := by rw [QM, app_set0]; rfl
theorem qm_setB {b' : List Int} : (QM m found begs).set (m.length + 1) (.lst (b'.map .int)) = QM m found b' := by rw [QM, app_set]; rfl
theorem law_put_in_eq (hp : ProgOk p) (k0 : 0 ≤ k) (k1 : k < p.2.length) (hum : m.all (Cell.und m.length) = true) (hl : sv.length ≤ 60) : f__law_put_in [progD p, .int k, .lst (sv.map pairD)] m = .ok (progD (putA p k sv)) m := by
  obtain ⟨hro, hrt⟩ := rt_ok hp k0 k1
  have h6 := hp.2.2.1
  have hlen := hro.2.1
  have htr := tr_found (sv := sv) (rows_tr hp k0 k1) _ (Nat.le_refl _)
  have hteq := fun r hr => turn_eq (sv := sv) (htr r hr)
  have hat := fun a => @atP_len sv a
  have hfl : ∀ j, j ≤ (rtOf p k).2.length → (foundA sv (rtOf p k).2 j).length ≤ 10000 := fun j hj => by
    have h1 := @foundA_len sv (rtOf p k).2 j
    have : j * (3 * sv.length + 1) ≤ 40 * 181 := Nat.mul_le_mul (by omega) (by omega)
    omega
  have hln : (1000000 : Nat) = line := rfl
  have hrw : ∀ j, j < (rtOf p k).2.length → Rw (rtOf p k).2.length p.2.length ((rtOf p k).2.getD j ("back", [])) := fun j hj => by
    have h := (row_at2 hp k0 k1 (a := (j : Int)) ⟨by omega, by omega⟩).1
    have hrr : rowOf p k (j : Int) = (rtOf p k).2.getD j ("back", []) := by simp [rowOf]
    rwa [hrr] at h
  obtain ⟨rows, hrows⟩ : ∃ rows, (rtOf p k).2 = rows := ⟨_, rfl⟩
  apply ok_same
  refine def_go rfl ?_
  refine s_cons (s_asg ?_)
  simp [progD]
  refine ⟨_, rfl, ?_⟩
  refine s_cons (s_asg ?_)
  simp [hrt]
  refine ⟨_, rfl, ?_⟩
  have hatD : ∀ (a : Int) (e : EnvD) (mm : Mem) (Q : List D → Mem → Prop) (body : D → Mem → Res (Option D)), (∀ s : Sv, body (pairD s) mm = .ok (if s.1 = a then some (D.int s.2) else none) mm) → Q ((atP sv a).map .int) mm → Ok (lcIt body (.fix (sv.map pairD)) mm) Q := fun a e mm Q body hb hq => by
    refine lc_fmF (f := pairD) (g := fun s => if s.1 = a then some (D.int s.2) else none) (fun s _ => hb s) (by omega) ?_
    rw [atP_fm]
    exact hq
  refine s_cons (s_set ?_)
  simp
  refine hatD (-1) [] _ _ _ (fun s => ok_same (lc_body rfl ?_)) ?_
  · by_cases h : s.1 = -1 <;> simp [wipeE, pairD, h]
  refine s_cons (s_set ?_)
  simp
  refine lc_mapF (f := D.int) (g := fun b => D.tup [.str "push", .int b]) (l := atP sv (-1)) (fun b _ => ok_same (lc_body rfl (by simp [wipeE]))) (by have := hat (-1); omega) ?_
  rw [pushD]
  refine s_cons (s_set ?_)
  simp
  have hq0 : m ++ [Cell.lst ((psh (atP sv (-1))).map rowD), .lst []] = QM m (foundA sv (rtOf p k).2 0) [] := rfl
  rw [hq0]
  obtain ⟨N, hN⟩ : ∃ N : List D → EnvD → Mem → Prop, ∀ ds e mm, N ds e mm ↔ (∃ (j : Nat) (e8 e9 e12 e13 : Option D), j ≤ (rtOf p k).2.length ∧ ds = (List.range' j ((rtOf p k).2.length - j)).map (fun i => D.int (i : Nat)) ∧ mm = QM m (foundA sv (rtOf p k).2 j) ((List.range j).map (begA' sv (rtOf p k).2)) ∧
    e = [some (.tup [.tup (p.1.map houseD), .tup (p.2.map routD)]), some (.int k), some (.lst (sv.map pairD)), some (.tup (p.1.map houseD)), some (.tup (p.2.map routD)), some (.int (rtOf p k).1), some (.tup ((rtOf p k).2.map rowD)), some (.lst ((atP sv (-1)).map .int)), e8, e9, some (.ptr m.length), some (.ptr (m.length + 1)), e12, e13]) := ⟨_, fun _ _ _ => Iff.rfl⟩
  refine s_cons (s_for N ?_ ?_ ?_)
  · simp
    exact ⟨_, rng_n (by omega), (hN _ _ _).mpr ⟨0, _, _, _, _, by omega, by rw [List.range_eq_range']; simp, rfl, rfl⟩⟩
  · intro d ds e mm hh
    obtain ⟨j, e8, e9, e12, e13, hj, hds, rfl, rfl⟩ := (hN _ _ _).mp hh
    have hlt : j < (rtOf p k).2.length := by
      by_cases h : j < (rtOf p k).2.length
      · exact h
      · rw [show (rtOf p k).2.length - j = 0 by omega] at hds; cases hds
    rw [show (rtOf p k).2.length - j = ((rtOf p k).2.length - (j + 1)) + 1 by omega, List.range'_succ, List.map_cons] at hds
    cases hds
    have hff := hfl j hj
    have hrow := row_getD hlt
    have hback := fun mm => eq_back (m := mm) (hrw j hlt)
    have hbeg : ((List.range j).map (begA' sv (rtOf p k).2)).map D.int ++ [D.int (foundA sv (rtOf p k).2 j).length] = ((List.range (j + 1)).map (begA' sv (rtOf p k).2)).map .int := by
      rw [List.range_succ]
      simp [begA']
    have hf1 : foundA sv (rtOf p k).2 (j + 1) = foundA sv (rtOf p k).2 j ++ layA sv j ((rtOf p k).2.getD j ("back", [])) := rfl
    have hnext : ∀ e8 e9 e13, N ((List.range' (j + 1) ((rtOf p k).2.length - (j + 1))).map fun i => D.int (i : Nat)) [some (.tup [.tup (p.1.map houseD), .tup (p.2.map routD)]), some (.int k), some (.lst (sv.map pairD)), some (.tup (p.1.map houseD)), some (.tup (p.2.map routD)), some (.int (rtOf p k).1), some (.tup ((rtOf p k).2.map rowD)), some (.lst ((atP sv (-1)).map .int)), e8, e9, some (.ptr m.length), some (.ptr (m.length + 1)), some (.int j), e13] (QM m (foundA sv (rtOf p k).2 (j + 1)) ((List.range (j + 1)).map (begA' sv (rtOf p k).2))) := fun e8 e9 e13 => (hN _ _ _).mpr ⟨j + 1, _, _, _, _, by omega, rfl, rfl, rfl⟩
    rw [hf1] at hnext
    generalize foundA sv (rtOf p k).2 j = fo at hff hbeg hnext ⊢
    generalize (rtOf p k).2.getD j ("back", []) = r at hrow hback hnext ⊢
    refine ⟨_, rfl, ?_⟩
    refine s_cons (s_exp ?_)
    simp
    refine ⟨k_app qm_begs, ?_⟩
    rw [len_getL (xs := fo.map rowD) (by simp only [getL, qm_found])]
    refine ⟨_, rfl, ?_⟩
    refine (m_app qm_begs).mpr ⟨by simp; omega, ?_⟩
    rw [List.length_map, hbeg, qm_setB]
    generalize (List.range (j + 1)).map (begA' sv (rtOf p k).2) = bb at hnext ⊢
    refine s_cons (s_set ?_)
    simp
    refine hatD j [] _ _ _ (fun s => ok_same (lc_body rfl ?_)) ?_
    · by_cases h : s.1 = j <;> simp [wipeE, pairD, h]
    have hatj := hat j
    have hatm := hat (-1)
    refine s_cons (s_exp ?_)
    simp
    refine ⟨k_ext qm_found, ?_⟩
    refine lc_mapF (f := D.int) (g := fun b => D.tup [.str "push", .int b]) (l := atP sv j) (fun b _ => ok_same (lc_body rfl (by simp [wipeE]))) (by omega) ?_
    rw [pushD]
    refine (m_ext qm_found rfl).mpr ⟨by simp [psh_len]; omega, ?_⟩
    rw [← List.map_append, qm_setF]
    obtain ⟨N1, hN1⟩ : ∃ N1 : EnvD → Mem → Prop, ∀ e mm, N1 e mm ↔ (∃ e9, mm = QM m (fo ++ (psh (atP sv j) ++ (if r.1 = "back" then pps (atP sv (-1)) else []))) bb ∧
      e = [some (.tup [.tup (p.1.map houseD), .tup (p.2.map routD)]), some (.int k), some (.lst (sv.map pairD)), some (.tup (p.1.map houseD)), some (.tup (p.2.map routD)), some (.int (rtOf p k).1), some (.tup ((rtOf p k).2.map rowD)), some (.lst ((atP sv (-1)).map .int)), e8, e9, some (.ptr m.length), some (.ptr (m.length + 1)), some (.int j), some (.lst ((atP sv j).map .int))]) := ⟨_, fun _ _ => Iff.rfl⟩
    refine s_cons (s_cut N1 (s_ite ?_) ?_)
    · simp [hrow, hback]
      by_cases hb : r.1 = "back"
      · simp [hb]
        refine s_last (s_exp ?_)
        simp
        refine ⟨k_ext qm_found, _, rfl, ?_⟩
        rw [← List.map_reverse]
        refine lc_mapF (f := D.int) (g := fun b => D.tup [.str "pop", .int b]) (l := (atP sv (-1)).reverse) (fun b _ => ok_same (lc_body rfl (by simp [wipeE]))) (by simp; omega) ?_
        rw [popD]
        refine (m_ext qm_found rfl).mpr ⟨by simp [psh_len, pps_len]; omega, ?_⟩
        rw [← List.map_append, qm_setF]
        exact (hN1 _ _).mpr ⟨_, by rw [if_pos hb, List.append_assoc], rfl⟩
      · simp [hb]
        exact s_nil ((hN1 _ _).mpr ⟨_, by rw [if_neg hb, List.append_nil], rfl⟩)
    · intro e mm hh
      obtain ⟨e9', rfl, rfl⟩ := (hN1 _ _).mp hh
      obtain ⟨pp, hpp⟩ : ∃ pp, (if r.1 = "back" then pps (atP sv (-1)) else []) = pp := ⟨_, rfl⟩
      have hpl : pp.length ≤ 1000 := by rw [← hpp]; split <;> simp [pps_len] <;> omega
      have hla : layA sv j r = psh (atP sv j) ++ (pp ++ ([r] ++ pps (atP sv j))) := by rw [← hpp]; rfl
      rw [hpp]
      rw [hla] at hnext
      refine s_cons (s_exp ?_)
      simp [hrow]
      refine ⟨k_app qm_found, (m_app qm_found).mpr ⟨by simp [psh_len]; omega, ?_⟩⟩
      have e1 : (fo ++ (psh (atP sv j) ++ pp)).map rowD ++ [rowD r] = (fo ++ (psh (atP sv j) ++ pp) ++ [r]).map rowD := by simp
      rw [e1, qm_setF]
      refine s_last (s_exp ?_)
      simp
      refine ⟨k_ext qm_found, _, rfl, ?_⟩
      rw [← List.map_reverse]
      refine lc_mapF (f := D.int) (g := fun b => D.tup [.str "pop", .int b]) (l := (atP sv j).reverse) (fun b _ => ok_same (lc_body rfl (by simp [wipeE]))) (by simp; omega) ?_
      rw [popD]
      refine (m_ext qm_found rfl).mpr ⟨by simp [psh_len, pps_len]; omega, ?_⟩
      rw [← List.map_append, qm_setF]
      have := hnext e8 e9' (some (.lst ((atP sv j).map .int)))
      simpa using this
  · intro e mm hh
    obtain ⟨j, e8, e9, e12, e13, hj, hds, rfl, rfl⟩ := (hN _ _ _).mp hh
    have hjn : j = (rtOf p k).2.length := by
      by_cases h : j < (rtOf p k).2.length
      · rw [show (rtOf p k).2.length - j = ((rtOf p k).2.length - (j + 1)) + 1 by omega, List.range'_succ, List.map_cons] at hds
        cases hds
      · omega
    subst hjn
    have hff := hfl _ (Nat.le_refl _)
    have hrA : (foundA sv (rtOf p k).2 (rtOf p k).2.length).filterMap (fun r => some (rowD (turnB ((List.range (rtOf p k).2.length).map (begA' sv (rtOf p k).2)) r))) = (rowsA sv (rtOf p k).2).map rowD := by
      rw [List.filterMap_eq_map']
      unfold rowsA
      rw [List.map_map]
      exact List.map_congr_left fun r hr => by rw [hteq r hr]; rfl
    have htr2 : ∀ r ∈ foundA sv (rtOf p k).2 (rtOf p k).2.length, TrOk ((List.range (rtOf p k).2.length).map (begA' sv (rtOf p k).2)).length r := fun r hr => by rw [List.length_map, List.length_range]; exact htr r hr
    generalize foundA sv (rtOf p k).2 (rtOf p k).2.length = fo at hff hrA htr2 ⊢
    generalize (List.range (rtOf p k).2.length).map (begA' sv (rtOf p k).2) = bb at hrA htr2 ⊢
    have hgf : getL (QM m fo bb) (.ptr m.length) = some (fo.map rowD) := by simp only [getL, qm_found]
    have hgb : getL (QM m fo bb) (.ptr (m.length + 1)) = some (bb.map .int) := by simp only [getL, qm_begs]
    obtain ⟨J, hJ⟩ := it_any hgf
    refine s_cons (s_set ?_)
    simp [hJ]
    refine lc_anyF (f := rowD) (g := fun r => some (rowD (turnB bb r))) hgf hJ (fun r hr => ?_) (by omega) ?_
    · have hro2 := htr2 r hr
      have hin := fun mm => zg_in (G := g__law_put_in) (m := mm) hro2.str
      refine ok_same (lc_body rfl ?_)
      by_cases hz : r.1 = "zero" ∨ r.1 = "go"
      · obtain ⟨hne, l0, l1⟩ := hro2.goal hz
        rw [decide_eq_true hz] at hin
        obtain ⟨d, hi, hi2⟩ := atI_get (l := bb.map D.int) l0 (by simpa using l1)
        rw [List.getElem?_map] at hi2
        have hbg : d = .int (bg bb (lst0 r.2)) := by
          obtain ⟨x, hx, rfl⟩ := Option.map_eq_some_iff.mp hi2
          rw [bg, List.getD_eq_getElem?_getD, hx]
          rfl
        subst hbg
        have hrw2 := row_init r hne
        have hcl : (cutD (D.str r.1 :: r.2.map .int) none (some (-1))).length ≤ 4 := by
          rw [cut_last]
          have := hro2.len
          simp
          omega
        have e5 : D.tup (cutD (D.str r.1 :: r.2.map .int) none (some (-1)) ++ [D.int (bg bb (lst0 r.2))]) = rowD (turnB bb r) := by
          rw [turnB, if_pos hz]
          injection hrw2 with hrw2
          rw [hrw2]
          simp [rowD]
        rw [← e5]
        simp [wipeE, rowD, hin, row_last r hne, i_lst hgb, hi]
        omega
      · rw [decide_eq_false hz] at hin
        have e5 : rowD (turnB bb r) = rowD r := by rw [turnB, if_neg hz]
        rw [e5]
        simp [wipeE, rowD, hin]
    rw [hrA]
    refine s_last (s_ret ?_)
    simp
    rw [cut_toI _ k0, cut_fromI _ (by omega), show (k + 1).toNat = k.toNat + 1 by omega]
    have hl1 : ((p.2.map routD).take k.toNat).length ≤ 6 := by simp; omega
    have hl2 : ((p.2.map routD).drop (k.toNat + 1)).length ≤ 6 := by simp; omega
    have hgl : getL (QM m fo bb ++ [Cell.lst ((rowsA sv (rtOf p k).2).map rowD)]) (.ptr (QM m fo bb).length) = some ((rowsA sv (rtOf p k).2).map rowD) := by simp [getL]
    rw [l_tupP hgl]
    refine ⟨by omega, by omega, ?_⟩
    have em : QM m fo bb ++ [Cell.lst ((rowsA sv (rtOf p k).2).map rowD)] = m ++ ([.lst (fo.map rowD), .lst (bb.map .int)] ++ [Cell.lst ((rowsA sv (rtOf p k).2).map rowD)]) := by simp [QM]
    have epd : D.tup [D.tup (p.1.map houseD), .tup ((p.2.map routD).take k.toNat ++ (D.tup [.int (rtOf p k).1, .tup ((rowsA sv (rtOf p k).2).map rowD)] :: (p.2.map routD).drop (k.toNat + 1)))] = progD (putA p k sv) := by
      simp [progD, putA, routD, List.map_take, List.map_drop]
    have key : Ok (settle m.length (progD (putA p k sv)) (m ++ ([.lst (fo.map rowD), .lst (bb.map .int)] ++ [Cell.lst ((rowsA sv (rtOf p k).2).map rowD)]))) (fun d' m' => d' = progD (putA p k sv) ∧ m' = m) := (settle_drop rfl (und_prog _ _) hum).mpr ⟨rfl, rfl⟩
    rw [← em, ← epd] at key
    refine Ok.mono key ?_
    rintro d' m' ⟨h1, h2⟩
    rw [h1, h2]
    refine ⟨?_, rfl⟩
    simp [progD, putA, routD, List.map_take, List.map_drop]
end
end Mi

set_option Elab.async false
set_option linter.all false
set_option maxRecDepth 100000
set_option maxHeartbeats 4000000
namespace Mi
open PySem L2 TL
/-! ### some saves -/
def plA (rows : List Row) : List Int := (-1 : Int) :: -1 :: (callsA rows).map fun j : Nat => (j : Int)
theorem pairsD_ofM : ∀ sv : List Sv, pairsD (sv.map pairD) = some sv
  | [] => rfl
  | s :: sv => by
    have ih := pairsD_ofM sv
    simp [pairsD, pairD] at ih ⊢
    simp [ih]
theorem insP_len (i : Sv) : ∀ l : List Sv, (insP i l).length ≤ l.length + 1
  | [] => by simp [insP]
  | j :: r => by
    unfold insP
    split
    · simp
    · split
      · simp
      · have := insP_len i r
        simp
        omega
theorem sortSetP_len : ∀ l : List Sv, (sortSetP l).length ≤ l.length
  | [] => by simp [sortSetP]
  | i :: l => by
    have h1 := sortSetP_len l
    have h2 := insP_len i (sortSetP l)
    show (insP i (sortSetP l)).length ≤ _
    simp
    omega
theorem sortSetP_idem (l : List Sv) : sortSetP (sortSetP l) = sortSetP l := sortedP_eq (sortSetP_sorted _) (sortSetP_sorted _) fun k => by rw [sortSetP_mem]
theorem sixB_mem {o b : Int} (h0 : 0 ≤ b) (h1 : b < 6) (hn : b ≠ o) : b ∈ sixB o := List.mem_filter.mpr ⟨in_six'.mpr ⟨h0, h1⟩, by simpa using hn⟩
theorem mod_box {o t : Int} (h0 : 0 ≤ o) (h1 : o < 6) (t0 : 0 ≤ t) (t1 : t < 5) : 0 ≤ (o + 1 + t) % 6 ∧ (o + 1 + t) % 6 < 6 ∧ (o + 1 + t) % 6 ≠ o := by omega
theorem house_at {p : Prog} {u : Int} (hp : ProgOk p) (u0 : 0 ≤ u) (u1 : u < p.2.length) : atI (p.1.map houseD) (rtOf p u).1 = some (houseD (hoOf p u)) := by
  obtain ⟨hq0, hq1⟩ : 0 ≤ (rtOf p u).1 ∧ (rtOf p u).1 < p.1.length := (rt_ok hp u0 u1).1.1
  have hh : (rtOf p u).1.toNat < p.1.length := by omega
  obtain ⟨d, e, g⟩ := atI_get (l := p.1.map houseD) hq0 (by simpa using hq1)
  rw [e, ← g, List.getElem?_map, List.getElem?_eq_getElem hh]
  simp [hoOf, List.getD_eq_getElem?_getD, hh]
theorem call_of {p : Prog} {k : Int} (hp : ProgOk p) (k0 : 0 ≤ k) (k1 : k < p.2.length) {j : Nat} (hj : j ∈ callsA (rtOf p k).2) : ∃ u, j < (rtOf p k).2.length ∧ (rtOf p k).2.getD j ("back", []) = (("call", [u]) : Row) ∧ 0 ≤ u ∧ u < p.2.length := by
  have hjl : j < (rtOf p k).2.length := by
    unfold callsA at hj
    exact List.mem_range.mp (List.mem_filter.mp hj).1
  have hjw : ((rtOf p k).2.getD j ("back", [])).1 = "call" := by
    unfold callsA at hj
    exact of_decide_eq_true (List.mem_filter.mp hj).2
  have hrw := (row_at2 hp k0 k1 (a := (j : Int)) ⟨by omega, by omega⟩).1
  have hrr : rowOf p k (j : Int) = (rtOf p k).2.getD j ("back", []) := by simp [rowOf]
  rw [hrr] at hrw
  generalize (rtOf p k).2.getD j ("back", []) = r at hrw hjw ⊢
  cases hrw <;> simp at hjw
  rename_i u u0 u1
  exact ⟨u, hjl, rfl, u0, u1⟩
def pm (S : Hs) (r : Mem) (sv : List Sv) : Mem := hm S (r ++ [.lst (sv.map pairD)])
theorem pm_get {S : Hs} {r : Mem} {sv : List Sv} : (pm S r sv)[r.length + 2]? = some (.lst (sv.map pairD)) := by simp [pm, hm]
theorem pm_set {S : Hs} {r : Mem} {sv sv' : List Sv} : (pm S r sv).set (r.length + 2) (.lst (sv'.map pairD)) = pm S r sv' := by simp [pm, hm]
theorem law_saves_ok (S : Hs) (r : Mem) {p : Prog} {k : Int} {most : Int} (hp : ProgOk p) (k0 : 0 ≤ k) (k1 : k < p.2.length) (hr : r.all (Cell.und (r.length + 2)) = true) (m0 : 0 ≤ most) (m1 : most ≤ 30) :
    Ok (f__law_saves [.ptr 1, progD p, .int k, .int most] (hm S r)) fun d mm => ∃ S' sv, d = .lst (sv.map pairD) ∧ mm = hm S' r ∧ (sv.length : Int) ≤ most ∧ sortSetP sv = sv ∧ ∀ s ∈ sv, s ∈ allS p k := by
  obtain ⟨Z, hZ⟩ : ∃ Z : D → Mem → Prop, ∀ d mm, Z d mm ↔ (∃ S' sv, d = .lst (sv.map pairD) ∧ mm = hm S' r ∧ (sv.length : Int) ≤ most ∧ sortSetP sv = sv ∧ ∀ s ∈ sv, s ∈ allS p k) := ⟨_, fun _ _ => Iff.rfl⟩
  refine Ok.mono (Q := Z) ?_ fun d m h => (hZ d m).mp h
  obtain ⟨hro, hrt⟩ := rt_ok hp k0 k1
  have hlen := hro.2.1
  have hln : (1000000 : Nat) = line := rfl
  refine def_go rfl ?_
  refine s_cons (s_set ?_)
  simp [progD, hrt, routD]
  refine s_cons (s_set ?_)
  simp
  refine ⟨_, rng_n (n := (rtOf p k).2.length) (by omega), ?_⟩
  refine lc_filtF (f := fun j : Nat => D.int (j : Nat)) (p := fun j => decide (((rtOf p k).2.getD j ("back", [])).1 = "call")) (l := List.range (rtOf p k).2.length) (fun j hj => ?_) (by simp; omega) ?_
  · have hrow := row_getD (List.mem_range.mp hj)
    generalize (rtOf p k).2.getD j ("back", []) = r at hrow ⊢
    refine ok_same (lc_body rfl ?_)
    by_cases hc : r.1 = "call" <;> simp [wipeE, hrow, idx_rowW, hc]
  have hcl : (callsA (rtOf p k).2).length ≤ 32 := by
    unfold callsA
    refine Nat.le_trans (List.length_filter_le _ _) ?_
    simp; omega
  have hpl' : (((List.range (rtOf p k).2.length).filter fun j => decide (((rtOf p k).2.getD j ("back", [])).1 = "call")).map (fun j : Nat => D.int (j : Nat))).length ≤ 32 := by rw [List.length_map]; exact hcl
  have hpl : [D.int (-1), .int (-1)] ++ ((List.range (rtOf p k).2.length).filter fun j => decide (((rtOf p k).2.getD j ("back", [])).1 = "call")).map (fun j : Nat => D.int (j : Nat)) = (plA (rtOf p k).2).map .int := by
    simp [plA, callsA]
  refine (b_lst rfl rfl).mpr ⟨by have h := hpl'; simp only [List.length_cons, List.length_nil]; omega, ?_⟩
  rw [hpl]
  have hpm : ∀ j : Int, 0 ≤ j → j < ((plA (rtOf p k).2).length : Int) → ∃ c : Int, atI ((plA (rtOf p k).2).map D.int) j = some (.int c) ∧ (c = -1 ∨ ∃ i ∈ callsA (rtOf p k).2, c = (i : Int)) := fun j h0 h1 => by
    obtain ⟨d, e, g⟩ := atI_get (l := (plA (rtOf p k).2).map D.int) h0 (by simpa using h1)
    obtain ⟨c, hc, rfl⟩ := List.mem_map.mp (List.mem_of_getElem? g)
    refine ⟨c, e, ?_⟩
    rcases List.mem_cons.mp hc with h | h
    · exact .inl h
    rcases List.mem_cons.mp h with h | h
    · exact .inl h
    · obtain ⟨i, hi, rfl⟩ := List.mem_map.mp h
      exact .inr ⟨i, hi, rfl⟩
  have hpn : ((plA (rtOf p k).2).length : Int) ≤ 34 := by simp [plA]; omega
  have hpo : (2 : Int) ≤ (plA (rtOf p k).2).length := by simp [plA]; omega
  generalize plA (rtOf p k).2 = pl at hpm hpn hpo ⊢
  refine s_cons (s_set ?_)
  simp
  rw [show hm S r ++ [Cell.lst []] = pm S r [] from rfl]
  obtain ⟨N, hN⟩ : ∃ N : List D → EnvD → Mem → Prop, ∀ ds e mm, N ds e mm ↔ (∃ (S' : Hs) (sv : List Sv) (e6 e8 e9 e10 : Option D), mm = pm S' r sv ∧ ((sv.length + ds.length : Nat) : Int) ≤ most ∧ (∀ s ∈ sv, s ∈ allS p k) ∧
    e = [some (.ptr 1), some (.tup [.tup (p.1.map houseD), .tup (p.2.map routD)]), some (.int k), some (.int most), some (.tup ((rtOf p k).2.map rowD)), some (.lst (pl.map .int)), e6, some (.ptr (r.length + 2)), e8, e9, e10]) := ⟨_, fun _ _ _ => Iff.rfl⟩
  refine s_cons (s_for N ?_ ?_ ?_)
  · simp
    refine nx (r := r ++ [_]) (by omega) (by omega) fun z S1 z0 z1 => ?_
    simp
    exact ⟨_, rng_eq (by omega) (by omega) (by omega) (by omega), (hN _ _ _).mpr ⟨S1, [], _, _, _, _, rfl, by simp; omega, fun _ h => (by cases h), rfl⟩⟩
  · intro d ds e mm hn
    obtain ⟨S1, sv, e6, e8, e9, e10, rfl, h1, h2, rfl⟩ := (hN _ _ _).mp hn
    rw [List.length_cons] at h1
    refine ⟨_, rfl, ?_⟩
    refine s_cons (s_set ?_)
    simp
    refine nx (r := r ++ [_]) (by omega) (by omega) fun z S2 z0 z1 => ?_
    obtain ⟨c, hc1, hc2⟩ := hpm z z0 (by omega)
    simp [hc1]
    obtain ⟨u, hu, u0, u1⟩ : ∃ u : Int, (if c < 0 then u = k else ∃ i : Nat, c = (i : Int) ∧ i < (rtOf p k).2.length ∧ i ∈ callsA (rtOf p k).2 ∧ (rtOf p k).2.getD i ("back", []) = (("call", [u]) : Row)) ∧ 0 ≤ u ∧ u < p.2.length := by
      rcases hc2 with rfl | ⟨i, hi, rfl⟩
      · exact ⟨k, by simp, k0, k1⟩
      · obtain ⟨u, h1, h2, h3, h4⟩ := call_of hp k0 k1 hi
        exact ⟨u, by rw [if_neg (by omega)]; exact ⟨i, rfl, h1, hi, h2⟩, h3, h4⟩
    have hto : atI (p.2.map routD) u = some (routD (rtOf p u)) := (rt_ok hp u0 u1).2
    have hho := house_at hp u0 u1
    have hoo : 0 ≤ (hoOf p u).2.1 ∧ (hoOf p u).2.1 < 6 := (ho_ok hp u0 u1).2.2.1
    obtain ⟨N1, hN1⟩ : ∃ N1 : EnvD → Mem → Prop, ∀ e mm, N1 e mm ↔ (mm = pm S2 r sv ∧ e = [some (.ptr 1), some (.tup [.tup (p.1.map houseD), .tup (p.2.map routD)]), some (.int k), some (.int most), some (.tup ((rtOf p k).2.map rowD)), some (.lst (pl.map .int)), e6, some (.ptr (r.length + 2)), some d, some (.int c), some (.int (hoOf p u).2.1)]) := ⟨_, fun _ _ => Iff.rfl⟩
    refine s_cons (s_cut N1 (s_set ?_) ?_)
    · simp
      by_cases hc : c < 0
      · rw [if_pos hc] at hu
        subst hu
        refine .inr ⟨hc, ?_⟩
        simp [hto, routD, hho, houseD]
        exact (hN1 _ _).mpr ⟨rfl, rfl⟩
      · rw [if_neg hc] at hu
        obtain ⟨i, rfl, hil, -, hir⟩ := hu
        have hrow := row_getD hil
        rw [hir] at hrow
        refine .inl ⟨by omega, ?_⟩
        simp [hrow, rowD, hto, routD, hho, houseD]
        exact (hN1 _ _).mpr ⟨rfl, rfl⟩
    · intro e mm hh
      obtain ⟨rfl, rfl⟩ := (hN1 _ _).mp hh
      refine s_last (s_exp ?_)
      simp
      refine ⟨k_app pm_get, ?_⟩
      refine nx (r := r ++ [_]) (by omega) (by omega) fun t S3 t0 t1 => ?_
      simp
      refine (m_app pm_get).mpr ⟨by simp; omega, ?_⟩
      obtain ⟨g0, g1, g2⟩ := mod_box hoo.1 hoo.2 t0 t1
      have e1 : sv.map pairD ++ [D.tup [.int c, .int (((hoOf p u).2.1 + 1 + t) % 6)]] = (sv ++ [(c, ((hoOf p u).2.1 + 1 + t) % 6)]).map pairD := by simp [pairD]
      rw [e1, pm_set]
      refine (hN _ _ _).mpr ⟨S3, _, _, _, _, _, rfl, by simp; omega, fun s hs => ?_, rfl⟩
      rcases List.mem_append.mp hs with h | h
      · exact h2 s h
      · rw [List.mem_singleton.mp h]
        by_cases hc : c < 0
        · rw [if_pos hc] at hu
          subst hu
          have : c = -1 := by omega
          subst this
          exact List.mem_append.mpr (.inl (List.mem_map.mpr ⟨_, sixB_mem g0 g1 g2, rfl⟩))
        · rw [if_neg hc] at hu
          obtain ⟨i, rfl, hil, him, hir⟩ := hu
          refine List.mem_append.mpr (.inr (List.mem_flatMap.mpr ⟨i, him, ?_⟩))
          unfold aboutA
          rw [hir]
          exact List.mem_map.mpr ⟨_, sixB_mem g0 g1 g2, rfl⟩
  · intro e mm hn
    obtain ⟨S1, sv, e6, e8, e9, e10, rfl, h1, h2, rfl⟩ := (hN _ _ _).mp hn
    simp at h1
    refine s_last (s_ret ?_)
    simp
    have hll : sv.length ≤ 60 := by omega
    have hsr : srpD (.ptr (r.length + 2)) (pm S1 r sv) = .ok (.lst ((sortSetP sv).map pairD)) (pm S1 r sv) := by
      simp only [srpD, getL, pm_get, pairsD_ofM, hll, if_true]
    refine ok_eq hsr ?_
    show Ok (settle _ (D.lst ((sortSetP sv).map pairD)) (hm S1 r ++ [_])) Z
    rw [settle_drop (by simp [hm]) (by simp only [D.und]; exact undL_map fun _ _ => rfl) (und_hm (by simp [hm]) (by rw [hm_len]; exact hr))]
    have hle := sortSetP_len sv
    exact (hZ _ _).mpr ⟨S1, _, rfl, rfl, by omega, sortSetP_idem sv, fun s hs => h2 s ((sortSetP_mem _ _).mp hs)⟩
end Mi

set_option Elab.async false
set_option linter.all false
set_option maxRecDepth 100000
set_option maxHeartbeats 4000000
namespace Mi
open PySem L2 TL
/-! ### programs are like themselves -/
theorem like_tup {m : Mem} {n : Nat} {xs : List D} (hl : xs.length < 1000000) (h : ∀ x ∈ xs, Like m n x x) : Like m (n + 1) (.tup xs) (.tup xs) := by
  refine .inr (.inr (.inr (.inr (.inl ⟨_, _, rfl, rfl, hl, ?_⟩))))
  have := All2.map2 (R := Like m n) (f := fun x : D => x) (g := fun x : D => x) (l := xs) h
  simpa using this
theorem like_int {m : Mem} {n : Nat} {i : Int} : Like m (n + 1) (.int i) (.int i) := .inl ⟨i, rfl, rfl⟩
theorem like_str {m : Mem} {n : Nat} {i : Str} : Like m (n + 1) (.str i) (.str i) := .inr (.inl ⟨i, rfl, rfl⟩)
theorem like_ints {m : Mem} {n : Nat} {l : List Int} : ∀ x ∈ l.map D.int, Like m (n + 1) x x := fun x hx => by
  obtain ⟨i, _, rfl⟩ := List.mem_map.mp hx
  exact like_int
theorem like_row {m : Mem} {n : Nat} {r : Row} (h : r.2.length ≤ 100) : Like m (n + 2) (rowD r) (rowD r) := by
  refine like_tup (by simp; omega) fun x hx => ?_
  rcases List.mem_cons.mp hx with rfl | hx
  · exact like_str
  · exact like_ints x hx
theorem like_rout {m : Mem} {n : Nat} {r : Int × List Row} (h : r.2.length ≤ 100) (h2 : ∀ x ∈ r.2, x.2.length ≤ 100) : Like m (n + 4) (routD r) (routD r) := by
  refine like_tup (by simp) fun x hx => ?_
  rcases List.mem_cons.mp hx with rfl | hx
  · exact like_int
  · rw [List.mem_singleton.mp hx]
    refine like_tup (by simp; omega) fun y hy => ?_
    obtain ⟨z, hz, rfl⟩ := List.mem_map.mp hy
    exact like_row (h2 z hz)
theorem like_house {m : Mem} {n : Nat} {h : House} (hh : HouseOk h) : Like m (n + 3) (houseD h) (houseD h) := by
  have h1 := boxes_len hh.1
  have h2 := boxes_len hh.2.1
  refine like_tup (by simp) fun x hx => ?_
  simp at hx
  rcases hx with rfl | rfl | rfl
  · exact like_tup (by simp; omega) like_ints
  · exact like_int
  · exact like_tup (by simp; omega) like_ints
theorem like_prog {m : Mem} {q : Prog} (h1 : q.1.length ≤ 100) (h2 : ∀ h ∈ q.1, HouseOk h) (h3 : q.2.length ≤ 100) (h4 : ∀ r ∈ q.2, r.2.length ≤ 100 ∧ ∀ x ∈ r.2, x.2.length ≤ 100) : Like m 8 (progD q) (progD q) := by
  refine like_tup (by simp) fun x hx => ?_
  simp at hx
  rcases hx with rfl | rfl
  · refine like_tup (by simp; omega) fun y hy => ?_
    obtain ⟨z, hz, rfl⟩ := List.mem_map.mp hy
    exact like_house (h2 z hz)
  · refine like_tup (by simp; omega) fun y hy => ?_
    obtain ⟨z, hz, rfl⟩ := List.mem_map.mp hy
    exact like_rout (h4 z hz).1 (h4 z hz).2
theorem like_put {m : Mem} {p : Prog} {k : Int} {sv : List Sv} (hp : ProgOk p) (k0 : 0 ≤ k) (k1 : k < p.2.length) (h32 : (rowsA sv (rtOf p k).2).length ≤ 32) : Like m 8 (progD (putA p k sv)) (progD (putA p k sv)) := by
  have h3 := hp.1
  have h6 := hp.2.2.1
  have hold : ∀ r ∈ p.2, r.2.length ≤ 100 ∧ ∀ x ∈ r.2, x.2.length ≤ 100 := fun r hr => by
    have h := hp.2.2.2 r hr
    refine ⟨by have := h.2.1; omega, fun x hx => ?_⟩
    have := (row_tr (n := r.2.length) rfl (row_rw (h.2.2.1 x hx))).len
    omega
  refine like_prog (by simp [putA]; omega) hp.2.1 (by simp [putA]; omega) fun r hr => ?_
  simp only [putA, List.mem_append, List.mem_singleton] at hr
  rcases hr with (hr | rfl) | hr
  · exact hold r (List.mem_of_mem_take hr)
  · refine ⟨by simpa using Nat.le_trans h32 (by omega), fun x hx => ?_⟩
    obtain ⟨y, hy, rfl⟩ := List.mem_map.mp hx
    have := (tr_found (sv := sv) (rows_tr hp k0 k1) _ (Nat.le_refl _) y hy).len
    unfold turnA
    split <;> simp <;> omega
  · exact hold r (List.mem_of_mem_drop hr)
/-! ### what is no save -/
theorem allS_box {p : Prog} {k a b : Int} (h : (a, b) ∈ allS p k) : (a = -1 ∧ b ≠ outA p k) ∨ ∃ j ∈ callsA (rtOf p k).2, a = (j : Int) ∧ b ≠ outA p (bg ((rtOf p k).2.getD j ("back", [])).2 0) := by
  rcases List.mem_append.mp h with h | h
  · obtain ⟨x, h1, e⟩ := List.mem_map.mp h
    cases e
    exact .inl ⟨rfl, by simpa using (List.mem_filter.mp h1).2⟩
  · obtain ⟨j, hj, h2⟩ := List.mem_flatMap.mp h
    obtain ⟨x, h1, e⟩ := List.mem_map.mp h2
    cases e
    exact .inr ⟨j, hj, rfl, by simpa using (List.mem_filter.mp h1).2⟩
theorem calls_lt {rows : List Row} {j : Nat} (h : j ∈ callsA rows) : j < rows.length ∧ (rows.getD j ("back", [])).1 = "call" := by
  unfold callsA at h
  exact ⟨List.mem_range.mp (List.mem_filter.mp h).1, of_decide_eq_true (List.mem_filter.mp h).2⟩
/-- an item that is refused -/
def plainA (rows : List Row) : List Nat := (List.range rows.length).filter fun j => decide (¬ (rows.getD j ("back", [])).1 = "call")
def BadIt (p : Prog) (k : Int) (d : D) : Prop := Item p k d false
theorem bad_pair {p : Prog} {k a b : Int} (h : (a, b) ∉ allS p k) : BadIt p k (.tup [.int a, .int b]) := by
  have := Item.pair (p := p) (k := k) (a, b)
  rw [decide_eq_false h] at this
  exact this
/-- a list that is refused -/
def BadSv (p : Prog) (k : Int) (d : D) : Prop := ∃ l : List D, d = .lst l ∧ ∀ m : Mem, f_need_saves [progD p, .int k, .lst l] m = .exc ⟨"BadSaves", []⟩ (m ++ [.lst ((allS p k).map pairD)])
theorem badSv_add {p : Prog} {k : Int} {sv : List Sv} {d : D} (hp : ProgOk p) (k0 : 0 ≤ k) (k1 : k < p.2.length) (hl : sv.length ≤ 50) (hv : ∀ s ∈ sv, s ∈ allS p k) (hd : BadIt p k d) : BadSv p k (.lst (sv.map pairD ++ [d])) := by
  refine ⟨_, rfl, fun m => ?_⟩
  refine need_saves_bad (l := sv.map (fun s => (pairD s, true)) ++ [(d, false)]) hp k0 k1 (by simp [getL]) (by simp; omega) (fun x hx => ?_) ⟨(d, false), by simp, rfl⟩
  rcases List.mem_append.mp hx with hx | hx
  · obtain ⟨s, hs, rfl⟩ := List.mem_map.mp hx
    have := Item.pair (p := p) (k := k) s
    rw [decide_eq_true (hv s hs)] at this
    exact this
  · rw [List.mem_singleton.mp hx]; exact hd
theorem badSv_rise {p : Prog} {k : Int} {sv : List Sv} (hp : ProgOk p) (k0 : 0 ≤ k) (k1 : k < p.2.length) (hl : sv.length ≤ 50) (hv : ∀ s ∈ sv, s ∈ allS p k) (hs : sortSetP sv ≠ sv) : BadSv p k (.lst (sv.map pairD)) :=
  ⟨_, rfl, fun m => need_saves_rise hp k0 k1 rfl (by omega) hv hs⟩
theorem twice_rise (s : Sv) : sortSetP [s, s] ≠ [s, s] := by
  have h : ltP2 s s = false := by simp [ltP2]
  simp [sortSetP, insP, h]
theorem turned_rise {a b : Int} (h : a ≠ b) : sortSetP (sortSetP [(-1, a), (-1, b)]).reverse ≠ (sortSetP [(-1, a), (-1, b)]).reverse := by
  by_cases hl : a < b
  · have h1 : ¬ b < a := by omega
    have h2 : ¬ b = a := by omega
    simp [sortSetP, insP, ltP2, hl, h, h1, h2]
  · have h1 : b < a := by omega
    have h2 : ¬ b = a := by omega
    simp [sortSetP, insP, ltP2, hl, h, h1, h2]
theorem turned_mem {a b : Int} {s : Sv} (h : s ∈ (sortSetP [(-1, a), (-1, b)]).reverse) : s = (-1, a) ∨ s = (-1, b) := by
  have := (sortSetP_mem _ _).mp (List.mem_reverse.mp h)
  simpa using this
theorem idx4 {a b c d : D} {j : Int} {m : Mem} {P : D → Prop} (h0 : 0 ≤ j) (h1 : j < 4) (ha : P a) (hb : P b) (hc : P c) (hd : P d) {G : Gx} {Q : D → Mem → Prop} (q : ∀ x, P x → Q x m) : Ok (idxD G (.lst [a, b, c, d]) (.int j) m) Q := by
  have : j = 0 ∨ j = 1 ∨ j = 2 ∨ j = 3 := by omega
  rcases this with rfl | rfl | rfl | rfl
  · exact ok_eq (a := a) rfl (q _ ha)
  · exact ok_eq (a := b) rfl (q _ hb)
  · exact ok_eq (a := c) rfl (q _ hc)
  · exact ok_eq (a := d) rfl (q _ hd)
theorem x_addM {x y : D} {xs ys : List D} {m : Mem} {Q : D → Mem → Prop} (h1 : getL m x = some xs) (h2 : getL m y = some ys) : Ok (x2D .addM x y m) Q ↔ xs.length + ys.length ≤ 1000000 ∧ Q (.ptr m.length) (m ++ [.lst (xs ++ ys)]) := by
  simp only [x2D, h1, h2]
  exact ok_guard
theorem bad_call {p : Prog} {k : Int} {j : Nat} : BadIt p k (.tup [.int j, .int (outA p (bg ((rtOf p k).2.getD j ("back", [])).2 0))]) :=
  bad_pair fun h => by
    rcases allS_box h with ⟨h, _⟩ | ⟨i, hi, h, hne⟩
    · omega
    · have : i = j := by omega
      subst this
      exact hne rfl
theorem bad_eight {p : Prog} {k far : Int} {j : Nat} (hp : ProgOk p) (k0 : 0 ≤ k) (k1 : k < p.2.length) (f0 : 0 ≤ far) (hj : ((j : Int), (0 : Int)) ∉ allS p k) : ∀ d ∈ [D.tup [D.int j, .int 0], .tup [.int ((rtOf p k).2.length + far), .int 0], .tup [.int (-2 - far), .int 0], .tup [.int (-1), .int (6 + far)], .tup [.int (-1), .int (-1)]] ++ [.tup [.int (-1)], .tup [], .tup [.int (-1), .int (outA p k)]], BadIt p k d := fun d hd => by
  have hin := fun s (h : s ∈ allS p k) => allS_in hp k0 k1 h
  simp at hd
  rcases hd with rfl | rfl | rfl | rfl | rfl | rfl | rfl | rfl
  · exact bad_pair hj
  · exact bad_pair fun h => by
      rcases allS_box h with ⟨h, _⟩ | ⟨i, hi, h, _⟩
      · omega
      · have := (calls_lt hi).1; omega
  · exact bad_pair fun h => by
      have := (hin _ h).1
      simp at this
      omega
  · exact bad_pair fun h => by
      have := (hin _ h).2.2.2
      simp at this
      omega
  · exact bad_pair fun h => by
      have := (hin _ h).2.2.1
      simp at this
  · exact .odd _ (by simp)
  · exact .odd _ (by simp)
  · exact bad_pair fun h => by
      rcases allS_box h with ⟨_, h⟩ | ⟨i, hi, h, _⟩
      · exact h rfl
      · omega
section
variable {G : Gx} {m : Mem} {Q : D → Mem → Prop}
theorem idx_p0 {p : Prog} : Ok (idxD G (progD p) (.int 0) m) Q ↔ Q (.tup (p.1.map houseD)) m := by simp [progD]
theorem idx_p1 {p : Prog} : Ok (idxD G (progD p) (.int 1) m) Q ↔ Q (.tup (p.2.map routD)) m := by simp [progD]
theorem idx_t0 {r : Int × List Row} : Ok (idxD G (routD r) (.int 0) m) Q ↔ Q (.int r.1) m := by simp [routD]
theorem idx_t1 {r : Int × List Row} : Ok (idxD G (routD r) (.int 1) m) Q ↔ Q (.tup (r.2.map rowD)) m := by simp [routD]
theorem idx_h1 {h : House} : Ok (idxD G (houseD h) (.int 1) m) Q ↔ Q (.int h.2.1) m := by simp [houseD]
end
theorem law_true (ns : List Int) (hl : ns.length ≤ 63) {B : Prop} (hb : B) : ∃ m', f_law [.inp ns] [] = .ok (.bl true) m' := by
  suffices h : Ok (f_law [.inp ns] []) fun d m => d = .bl true by
    obtain ⟨d, m, e, rfl⟩ := h.of
    exact ⟨m, e⟩
  refine def_go rfl ?_
  refine s_cons (s_set ?_)
  simp
  refine Ok.mono (mix_ok ns 37) fun d m h => ?_
  obtain ⟨rfl, S, rfl⟩ := h
  obtain ⟨N, hN⟩ : ∃ N : List D → EnvD → Mem → Prop, ∀ ds e mm, N ds e mm ↔ (∃ S r e2 e3 e4 e5 e6 e7 e8 e9 e10 e11 e12 e13 e14 e15 e16 e17, mm = hm S r ∧ gOk r ∧ e = [some (.inp ns), some (.ptr 1), e2, e3, e4, e5, e6, e7, e8, e9, e10, e11, e12, e13, e14, e15, e16, e17]) := ⟨_, fun _ _ _ => Iff.rfl⟩
  have hln : (1000000 : Nat) = line := rfl
  refine s_cons (s_for N ?_ ?_ ?_)
  · simp
    refine ⟨_, rng_n (n := 6) (by omega), (hN _ _ _).mpr ⟨S, [], _, _, _, _, _, _, _, _, _, _, _, _, _, _, _, _, rfl, rfl, rfl⟩⟩
  · intro d0 ds e mm hh
    obtain ⟨S, r, e2, e3, e4, e5, e6, e7, e8, e9, e10, e11, e12, e13, e14, e15, e16, e17, rfl, g, rfl⟩ := (hN _ _ _).mp hh
    clear hh
    refine ⟨_, rfl, ?_⟩
    refine s_cons (s_set ?_)
    simp
    refine Ok.mono (any_ok S r g) fun d m ⟨S1, p, e1, e2', hp⟩ => ?_
    subst e1 e2'
    have h6 := hp.2.2.1
    refine s_cons (s_set ?_)
    simp [idx_p1]
    refine nx (by omega) (by omega) fun k S2 k0 k1 => ?_
    obtain ⟨hro, hrt⟩ := rt_ok hp k0 k1
    have hlen := hro.2.1
    refine s_cons (s_set ?_)
    simp
    refine Ok.mono (law_saves_ok S2 r hp k0 k1 g (by omega) (by omega)) fun d m ⟨S3, sv, e1, e2', hl6, hso, hv⟩ => ?_
    subst e1 e2'
    have hl60 : sv.length ≤ 60 := by omega
    refine s_cons (s_set ?_)
    simp [law_put_in_eq (m := hm S3 r) hp k0 k1 g.hm hl60]
    refine s_cons (s_set ?_)
    simp
    have hput := putA_at (p := p) (k := k) (sv := sv) k0 k1
    have heq := eq_pairs (m := hm S3 r) (x := .lst (sv.map pairD)) (y := .lst (sv.map pairD)) (l := sv) (k := sv) rfl rfl
    rw [decide_eq_true rfl] at heq
    obtain ⟨N1, hN1⟩ : ∃ N1 : EnvD → Mem → Prop, ∀ e mm, N1 e mm ↔ (mm = hm S3 r ∧ e = [some (.inp ns), some (.ptr 1), some d0, some (progD p), some (.int k), some (.lst (sv.map pairD)), some (progD (putA p k sv)), some (.lst (sv.map pairD)), e8, e9, e10, e11, e12, e13, e14, e15, e16, e17]) := ⟨_, fun _ _ => Iff.rfl⟩
    refine s_cons (s_cut N1 (s_ite ?_) ?_)
    · simp [idx_p1, hput, idx_t1]
      by_cases h32 : 32 < (rowsA sv (rtOf p k).2).length
      · refine .inr ⟨by omega, ?_⟩
        refine s_last (s_ite ?_)
        simp
        refine w_kin rfl (x_call rfl rfl ?_)
        simp [put_in_many (m := hm S3 r) (sd := .lst (sv.map pairD)) hp k0 k1 g.hm rfl (fun _ => rfl) hl60 hv hso h32]
        refine ⟨by simp [kinWords], s_nil ?_⟩
        exact (hN1 _ _).mpr ⟨rfl, rfl⟩
      · refine .inl ⟨by omega, ?_⟩
        refine s_last (s_ite ?_)
        simp [put_in_ok (m := hm S3 r) (sd := .lst (sv.map pairD)) hp k0 k1 g.hm rfl (fun _ => rfl) hl60 hv hso (by omega)]
        have like : f__law_alike [progD (putA p k sv), progD (putA p k sv)] (hm S3 r) = .ok (.bl true) (hm S3 r) := like_eq 8 _ _ _ (like_put hp k0 k1 (by omega))
        simp [like, heq]
        exact s_nil ((hN1 _ _).mpr ⟨rfl, rfl⟩)
    · intro e mm hh
      obtain ⟨rfl, rfl⟩ := (hN1 _ _).mp hh
      refine s_cons (s_set ?_)
      simp [idx_p1, hrt, idx_t1]
      refine s_cons (s_set ?_)
      simp
      refine ⟨_, rng_n (n := (rtOf p k).2.length) (by omega), ?_⟩
      refine lc_filtF (f := fun j : Nat => D.int (j : Nat)) (p := fun j => decide (¬ ((rtOf p k).2.getD j ("back", [])).1 = "call")) (l := List.range (rtOf p k).2.length) (fun j hj => ?_) (by simp; omega) ?_
      · have hrow := row_getD (List.mem_range.mp hj)
        generalize (rtOf p k).2.getD j ("back", []) = r at hrow ⊢
        refine ok_same (lc_body rfl ?_)
        by_cases hc : r.1 = "call" <;> simp [wipeE, hrow, idx_rowW, hc]
      obtain ⟨pa, hpa⟩ : ∃ pa, pa = plainA (rtOf p k).2 := ⟨_, rfl⟩
      rw [show ((List.range (rtOf p k).2.length).filter fun j => decide (¬ ((rtOf p k).2.getD j ("back", [])).1 = "call")) = pa from hpa.symm]
      have hpl : pa.length ≤ 32 := by
        rw [hpa]
        unfold plainA
        refine Nat.le_trans (List.length_filter_le _ _) ?_
        simp; omega
      have hp0 : 0 < pa.length := by
        obtain ⟨last, hl1, hl2⟩ := hro.2.2.2
        refine List.length_pos_of_mem (a := (rtOf p k).2.length - 1) ?_
        rw [hpa]
        refine List.mem_filter.mpr ⟨List.mem_range.mpr (by omega), ?_⟩
        rw [List.getLast?_eq_getElem?] at hl1
        rw [List.getD_eq_getElem?_getD, hl1]
        rcases hl2 with h | h <;> simp [h]
      have hpb : ∀ j ∈ pa, ((j : Int), (0 : Int)) ∉ allS p k := fun j hj hm => by
        rw [hpa] at hj
        have hj2 := of_decide_eq_true (List.mem_filter.mp hj).2
        rcases allS_box hm with ⟨h, _⟩ | ⟨i, hi, h, _⟩
        · omega
        · have : i = j := by omega
          subst this
          exact hj2 (calls_lt hi).2
      clear hpa
      refine s_cons (s_set ?_)
      simp
      refine nx (by omega) (by omega) fun far S4 f0 f1 => ?_
      have hho := house_at hp k0 k1
      have hoo : 0 ≤ outA p k ∧ outA p k < 6 := (ho_ok hp k0 k1).2.2.1
      refine s_cons (s_set ?_)
      simp [idx_p0, idx_p1, hrt, idx_t0, hho, idx_h1]
      rw [show (hoOf p k).2.1 = outA p k from rfl]
      refine s_cons (s_set ?_)
      simp
      refine nx (by omega) (by omega) fun z S5 z0 z1 => ?_
      obtain ⟨d1, hz1, hz2⟩ := atI_get (l := pa.map (fun j : Nat => D.int (j : Nat))) z0 (by simpa using z1)
      obtain ⟨j, hj, rfl⟩ := List.mem_map.mp (List.mem_of_getElem? hz2)
      refine i_lst'.mpr ⟨_, hz1, ?_⟩
      have hjb := hpb j hj
      clear hz1 hz2 hpb hpl hp0 z1
      refine s_cons (s_set ?_)
      simp
      have hg1 : ∀ l, getL (hm S5 r ++ [Cell.lst l]) (.ptr (hm S5 r).length) = some l := fun l => by simp [getL]
      refine (x_addM (hg1 _) rfl).mpr ⟨by simp, ?_⟩
      have hb8 := bad_eight hp k0 k1 f0 hjb
      obtain ⟨o8, ho8⟩ : ∃ o8 : List D, o8 = [D.tup [D.int j, .int 0], .tup [.int ((rtOf p k).2.length + far), .int 0], .tup [.int (-2 - far), .int 0], .tup [.int (-1), .int (6 + far)], .tup [.int (-1), .int (-1)]] ++ [.tup [.int (-1)], .tup [], .tup [.int (-1), .int (outA p k)]] := ⟨_, rfl⟩
      obtain ⟨o5, ho5⟩ : ∃ o5 : List D, o5 = [D.tup [D.int j, .int 0], .tup [.int ((rtOf p k).2.length + far), .int 0], .tup [.int (-2 - far), .int 0], .tup [.int (-1), .int (6 + far)], .tup [.int (-1), .int (-1)]] := ⟨_, rfl⟩
      have hu8 : ∀ n, D.undL n o8 = true := fun n => by rw [ho8]; rfl
      have hu5 : ∀ n, D.undL n o5 = true := fun n => by rw [ho5]; rfl
      have hl8 : o8.length = 8 := by rw [ho8]; rfl
      rw [← ho8] at hb8 ⊢
      rw [← ho5]
      clear ho8 ho5
      rw [show hm S5 r ++ [Cell.lst o5] ++ [Cell.lst o8] = hm S5 (r ++ [.lst o5, .lst o8]) by simp [hm], show (hm S5 r ++ [Cell.lst o5]).length = r.length + 3 by simp [hm]]
      have hc1 : (hm S5 (r ++ [.lst o5, .lst o8]))[r.length + 3]? = some (.lst o8) := by simp [hm]
      refine s_cons (s_exp ?_)
      simp
      refine ⟨k_ext hc1, _, rng_n (n := (rtOf p k).2.length) (by omega), ?_⟩
      refine lc_fmF (f := fun j : Nat => D.int (j : Nat)) (g := fun j : Nat => if ((rtOf p k).2.getD j ("back", [])).1 = "call" then some (.tup [.int j, .int (outA p (bg ((rtOf p k).2.getD j ("back", [])).2 0))]) else none) (l := List.range (rtOf p k).2.length) (fun i hi => ?_) (by simp; omega) ?_
      · have hil := List.mem_range.mp hi
        have hrow := row_getD hil
        refine ok_same (lc_body rfl ?_)
        by_cases hc : ((rtOf p k).2.getD i ("back", [])).1 = "call"
        · obtain ⟨u, _, hr, u0, u1⟩ := call_of hp k0 k1 (j := i) (List.mem_filter.mpr ⟨hi, decide_eq_true hc⟩)
          rw [hr] at hrow ⊢
          have hto := (rt_ok hp u0 u1).2
          have hho2 := house_at hp u0 u1
          simp [wipeE, hrow, rowD, idx_p0, idx_p1, hto, idx_t0, hho2, idx_h1, outA, bg]
        · generalize (rtOf p k).2.getD i ("back", []) = r at hrow hc ⊢
          simp [wipeE, hrow, idx_rowW, hc]
      obtain ⟨om, hom⟩ : ∃ om : List D, om = (List.range (rtOf p k).2.length).filterMap (fun j : Nat => if ((rtOf p k).2.getD j ("back", [])).1 = "call" then some (.tup [.int j, .int (outA p (bg ((rtOf p k).2.getD j ("back", [])).2 0))]) else none) := ⟨_, rfl⟩
      have hbm : ∀ d ∈ om, BadIt p k d ∧ ∀ n, d.und n = true := fun d hd => by
        rw [hom] at hd
        obtain ⟨i, _, h⟩ := List.mem_filterMap.mp hd
        split at h
        · cases h
          exact ⟨bad_call, fun n => rfl⟩
        · cases h
      have hlm : om.length ≤ 32 := by
        rw [hom]
        refine Nat.le_trans (List.length_filterMap_le _ _) ?_
        simp; omega
      rw [← hom]
      clear hom
      refine (m_ext hc1 rfl).mpr ⟨by omega, ?_⟩
      have hum : ∀ n, D.undL n (o8 ++ om) = true := fun n => by
        rw [undL_app, hu8, Bool.true_and]
        have := undL_map (f := fun d : D => d) (l := om) (n := n) fun d hd => (hbm d hd).2 n
        simpa using this
      have hbo : ∀ d ∈ o8 ++ om, BadIt p k d := fun d hd => by
        rcases List.mem_append.mp hd with h | h
        · exact hb8 d h
        · exact (hbm d h).1
      rw [show (hm S5 (r ++ [.lst o5, .lst o8])).set (r.length + 3) (.lst (o8 ++ om)) = hm S5 (r ++ [.lst o5, .lst (o8 ++ om)]) by simp [hm]]
      have hlo : 0 < (o8 ++ om).length ∧ (o8 ++ om).length ≤ 40 := by simp; omega
      generalize o8 ++ om = od at hum hbo hlo ⊢
      clear hu8 hl8 hb8 hc1 hbm hlm
      have g2 : gOk (r ++ [.lst o5, .lst od]) := g.add (S := S5) (by simp [Cell.und, hu5, hum])
      have hco : ∀ S, getL (hm S (r ++ [.lst o5, .lst od])) (.ptr (r.length + 3)) = some od := fun S => by simp [getL, hm]
      generalize r ++ [Cell.lst o5, .lst od] = rr at g2 hco ⊢
      refine s_cons (s_set ?_)
      simp
      rw [len_getL (hco S5)]
      refine ⟨_, rfl, ?_⟩
      refine nx (by omega) (by omega) fun y S6 y0 y1 => ?_
      obtain ⟨dy, hy1, hy2⟩ := atI_get (l := od) y0 (by simpa using y1)
      have hdy := hbo dy (List.mem_of_getElem? hy2)
      refine (i_lst (hco S6)).mpr ⟨_, hy1, ?_⟩
      refine (b_lst (xs := sv.map pairD) (ys := [dy]) rfl rfl).mpr ⟨by simp; omega, ?_⟩
      have hbad := badSv_add hp k0 k1 (by omega) hv hdy
      refine s_cons (s_set ?_)
      simp
      have htw : BadSv p k (.lst [.tup [.int (-1), .int ((outA p k + 1 + far % 5) % 6)], .tup [.int (-1), .int ((outA p k + 1 + far % 5) % 6)]]) := by
        obtain ⟨a1, a2, a3⟩ := mod_box hoo.1 hoo.2 (t := far % 5) (by omega) (by omega)
        refine badSv_rise (sv := [(-1, (outA p k + 1 + far % 5) % 6), (-1, (outA p k + 1 + far % 5) % 6)]) hp k0 k1 (by simp) (fun s hs => ?_) (twice_rise _)
        simp at hs
        rw [hs]
        exact List.mem_append.mpr (.inl (List.mem_map.mpr ⟨_, sixB_mem a1 a2 a3, rfl⟩))
      have hmul : ∀ m, binD .Mult (.lst [.tup [.int (-1), .int ((outA p k + 1 + far % 5) % 6)]]) (.int 2) m = .ok (.lst [.tup [.int (-1), .int ((outA p k + 1 + far % 5) % 6)], .tup [.int (-1), .int ((outA p k + 1 + far % 5) % 6)]]) m := fun m => rfl
      rw [hmul]
      refine ok_ok.mpr ?_
      generalize D.lst [.tup [.int (-1), .int ((outA p k + 1 + far % 5) % 6)], .tup [.int (-1), .int ((outA p k + 1 + far % 5) % 6)]] = two at htw ⊢
      refine s_cons (s_set ?_)
      simp
      have hsr : [D.tup [.int (-1), .int ((outA p k + 1) % 6)], .tup [.int (-1), .int ((outA p k + 2) % 6)]] = [((-1 : Int), (outA p k + 1) % 6), (-1, (outA p k + 2) % 6)].map pairD := rfl
      have hne : (outA p k + 1) % 6 ≠ (outA p k + 2) % 6 := by omega
      rw [hsr]
      refine x_sor.mp ((x_sorL (x := .lst ([((-1 : Int), (outA p k + 1) % 6), (-1, (outA p k + 2) % 6)].map pairD)) (xs := [((-1 : Int), (outA p k + 1) % 6), (-1, (outA p k + 2) % 6)].map pairD) rfl (sortOk_pairs (by simp))).mpr ?_)
      rw [srt_setP (l := [((-1 : Int), (outA p k + 1) % 6), (-1, (outA p k + 2) % 6)]) (ps := [((-1 : Int), (outA p k + 1) % 6), (-1, (outA p k + 2) % 6)]) (by simp [hne]) fun _ => Iff.rfl]
      have hrv : BadSv p k (.lst ((sortSetP [((-1 : Int), (outA p k + 1) % 6), (-1, (outA p k + 2) % 6)]).reverse.map pairD)) := by
        obtain ⟨a1, a2, a3⟩ := mod_box hoo.1 hoo.2 (t := 0) (by omega) (by omega)
        obtain ⟨b1, b2, b3⟩ := mod_box hoo.1 hoo.2 (t := 1) (by omega) (by omega)
        rw [Int.add_zero] at a1 a2 a3
        rw [show outA p k + 1 + 1 = outA p k + 2 by omega] at b1 b2 b3
        have hmm : ∀ s ∈ (sortSetP [((-1 : Int), (outA p k + 1) % 6), (-1, (outA p k + 2) % 6)]).reverse, s ∈ allS p k := fun s hs => by
          rcases turned_mem hs with rfl | rfl
          · exact List.mem_append.mpr (.inl (List.mem_map.mpr ⟨_, sixB_mem a1 a2 a3, rfl⟩))
          · exact List.mem_append.mpr (.inl (List.mem_map.mpr ⟨_, sixB_mem b1 b2 b3, rfl⟩))
        have hlen2 := sortSetP_len [((-1 : Int), (outA p k + 1) % 6), (-1, (outA p k + 2) % 6)]
        simp at hlen2
        exact badSv_rise hp k0 k1 (by simp; omega) hmm (turned_rise hne)
      simp only [List.map_reverse] at hrv
      refine ⟨_, rfl, ?_⟩
      generalize D.lst ((sortSetP [((-1 : Int), (outA p k + 1) % 6), (-1, (outA p k + 2) % 6)]).map pairD).reverse = rv at hrv ⊢
      refine nx (by omega) (by omega) fun w S7 w0 w1 => ?_
      refine idx4 (P := BadSv p k) w0 w1 hbad hbad htw hrv fun worse hw => ?_
      obtain ⟨l, rfl, hl⟩ := hw
      refine s_last (s_ite ?_)
      simp
      refine w_kin rfl (x_call rfl rfl ?_)
      simp [put_in_bad hp k0 k1 (hl (hm S7 rr))]
      refine ⟨by simp [kinWords], ?_⟩
      refine (settle_drop rfl rfl g2.hm).mpr ?_
      simp
      refine s_nil ?_
      exact (hN _ _ _).mpr ⟨S7, rr, _, _, _, _, _, _, _, _, _, _, _, _, _, _, _, _, rfl, g2, rfl⟩
  · intro e mm hh
    obtain ⟨S, r, e2, e3, e4, e5, e6, e7, e8, e9, e10, e11, e12, e13, e14, e15, e16, e17, rfl, g, rfl⟩ := (hN _ _ _).mp hh
    refine s_last (s_ret ?_)
    simp
    unfold settle
    split
    · simp
    · split <;> simp
end Mi

set_option Elab.async false
set_option linter.all false
set_option maxRecDepth 100000
set_option maxHeartbeats 0
namespace Hd
open PySem PySem.Spec PyProof.Rows L2
abbrev R : PySem.W.OpenRow := PySem.W.OpenLaw.row PySem.Challenge.rw_callpact_k11_saves_put_in
def top (i : Nat) : Stmt := PySem.Challenge.pw_callpact_k11_saves_put_in.main.body.getD i (.Pass ⟨0, 0, 0, 0⟩)
def d__law_alike : He.DefD := ⟨("_law_alike", none), "_law_alike", "_law_alike", defArgs (top 38), defBody (top 38), defScope (top 38), [], []⟩
def d__law_next : He.DefD := ⟨("_law_next", none), "_law_next", "_law_next", defArgs (top 37), defBody (top 37), defScope (top 37), [], []⟩
def d__law_number : He.DefD := ⟨("_law_number", none), "_law_number", "_law_number", defArgs (top 40), defBody (top 40), defScope (top 40), [], []⟩
def d__law_wild_row : He.DefD := ⟨("_law_wild_row", none), "_law_wild_row", "_law_wild_row", defArgs (top 45), defBody (top 45), defScope (top 45), [], []⟩
def d__law_odd : He.DefD := ⟨("_law_odd", none), "_law_odd", "_law_odd", defArgs (top 47), defBody (top 47), defScope (top 47), [], []⟩
def d__law_house : He.DefD := ⟨("_law_house", none), "_law_house", "_law_house", defArgs (top 39), defBody (top 39), defScope (top 39), [], []⟩
def d__law_calling : He.DefD := ⟨("_law_calling", none), "_law_calling", "_law_calling", defArgs (top 42), defBody (top 42), defScope (top 42), [], []⟩
def d__law_simple : He.DefD := ⟨("_law_simple", none), "_law_simple", "_law_simple", defArgs (top 41), defBody (top 41), defScope (top 41), [], []⟩
def d__law_zeroed : He.DefD := ⟨("_law_zeroed", none), "_law_zeroed", "_law_zeroed", defArgs (top 43), defBody (top 43), defScope (top 43), [], []⟩
def d__law_kept : He.DefD := ⟨("_law_kept", none), "_law_kept", "_law_kept", defArgs (top 44), defBody (top 44), defScope (top 44), [], []⟩
def d__law_program : He.DefD := ⟨("_law_program", none), "_law_program", "_law_program", defArgs (top 46), defBody (top 46), defScope (top 46), [], []⟩
def d__law_wild : He.DefD := ⟨("_law_wild", none), "_law_wild", "_law_wild", defArgs (top 48), defBody (top 48), defScope (top 48), [], []⟩
def d__law_any : He.DefD := ⟨("_law_any", none), "_law_any", "_law_any", defArgs (top 49), defBody (top 49), defScope (top 49), [], []⟩
def d__law_mix : He.DefD := ⟨("_law_mix", none), "_law_mix", "_law_mix", defArgs (top 36), defBody (top 36), defScope (top 36), [], []⟩
def d__law_put_in : He.DefD := ⟨("_law_put_in", none), "_law_put_in", "_law_put_in", defArgs (top 51), defBody (top 51), defScope (top 51), [], []⟩
def d__law_saves : He.DefD := ⟨("_law_saves", none), "_law_saves", "_law_saves", defArgs (top 50), defBody (top 50), defScope (top 50), [], []⟩
def d_is_number : He.DefD := ⟨("is_number", none), "is_number", "is_number", defArgs (top 19), defBody (top 19), defScope (top 19), [], []⟩
def d_are_boxes : He.DefD := ⟨("are_boxes", none), "are_boxes", "are_boxes", defArgs (top 20), defBody (top 20), defScope (top 20), [], []⟩
def d_is_house : He.DefD := ⟨("is_house", none), "is_house", "is_house", defArgs (top 21), defBody (top 21), defScope (top 21), [], []⟩
def d_is_row : He.DefD := ⟨("is_row", none), "is_row", "is_row", defArgs (top 22), defBody (top 22), defScope (top 22), [], []⟩
def d_need_routine : He.DefD := ⟨("need_routine", none), "need_routine", "need_routine", defArgs (top 23), defBody (top 23), defScope (top 23), [], []⟩
def d_need_program : He.DefD := ⟨("need_program", none), "need_program", "need_program", defArgs (top 24), defBody (top 24), defScope (top 24), [], []⟩
def d_need_both : He.DefD := ⟨("need_both", none), "need_both", "need_both", defArgs (top 25), defBody (top 25), defScope (top 25), [], []⟩
def d_calls_of : He.DefD := ⟨("calls_of", none), "calls_of", "calls_of", defArgs (top 28), defBody (top 28), defScope (top 28), [], []⟩
def d_house_of : He.DefD := ⟨("house_of", none), "house_of", "house_of", defArgs (top 26), defBody (top 26), defScope (top 26), [], []⟩
def d_all_saves : He.DefD := ⟨("all_saves", none), "all_saves", "all_saves", defArgs (top 29), defBody (top 29), defScope (top 29), [], []⟩
def d_is_save : He.DefD := ⟨("is_save", none), "is_save", "is_save", defArgs (top 30), defBody (top 30), defScope (top 30), [], []⟩
def d_need_saves : He.DefD := ⟨("need_saves", none), "need_saves", "need_saves", defArgs (top 31), defBody (top 31), defScope (top 31), [], []⟩
def d_Putter_lay : He.DefD := ⟨("Putter", some "lay"), "lay", "Putter.lay", defArgs (inClass (top 32) 1), defBody (inClass (top 32) 1), defScope (inClass (top 32) 1), [], []⟩
def d_Putter___init__ : He.DefD := ⟨("Putter", some "__init__"), "__init__", "Putter.__init__", defArgs (inClass (top 32) 0), defBody (inClass (top 32) 0), defScope (inClass (top 32) 0), [], []⟩
def d_Putter_turned : He.DefD := ⟨("Putter", some "turned"), "turned", "Putter.turned", defArgs (inClass (top 32) 2), defBody (inClass (top 32) 2), defScope (inClass (top 32) 2), [], []⟩
def d_with_saves : He.DefD := ⟨("with_saves", none), "with_saves", "with_saves", defArgs (top 33), defBody (top 33), defScope (top 33), [], []⟩
def d_put_in : He.DefD := ⟨("put_in", none), "put_in", "put_in", defArgs (top 34), defBody (top 34), defScope (top 34), [], []⟩
def d_law : He.DefD := ⟨("law", none), "law", "law", defArgs (top 53), defBody (top 53), defScope (top 53), [], []⟩
def d__law_kind : He.DefD := ⟨("_law_kind", none), "_law_kind", "_law_kind", defArgs (top 52), defBody (top 52), defScope (top 52), [], []⟩
def fn : List He.DefD := [d__law_alike, d__law_next, d__law_number, d__law_wild_row, d__law_odd, d__law_house, d__law_calling, d__law_simple, d__law_zeroed, d__law_kept, d__law_program, d__law_wild, d__law_any, d__law_mix, d__law_put_in, d__law_saves, d_is_number, d_are_boxes, d_is_house, d_is_row, d_need_routine, d_need_program, d_need_both, d_calls_of, d_house_of, d_all_saves, d_is_save, d_need_saves, d_Putter_lay, d_Putter___init__, d_Putter_turned, d_with_saves, d_put_in, d_law, d__law_kind]
def lam : Mi.LamL := [(("law", none), "law")]
def fa : List He.Fa := [.glo "FORMS", .int "BOXES" 6, .int "RING" 1000, .int "MOST_HOUSES" 3, .int "MOST_ROUTINES" 6, .int "MOST_ROWS" 32, .free "isinstance", .free "len", .free "range", .free "list", .free "tuple", .free "sorted", .free "set", .free "str", .free "int", .free "bool", .free "zip", .free "max", .free "min", .free "reversed", .free "dict", .free "enumerate", .cls "Putter", .noat "Putter" "begins", .noat "Putter" "found", .noat "Putter" "rows", .noat "Putter" "saves", .glo "_law_alike", .glo "_law_next", .glo "_law_number", .glo "_law_wild_row", .glo "_law_odd", .glo "_law_house", .glo "_law_calling", .glo "_law_simple", .glo "_law_zeroed", .glo "_law_kept", .glo "_law_program", .glo "_law_wild", .glo "_law_any", .glo "_law_mix", .glo "_law_put_in", .glo "_law_saves", .glo "is_number", .glo "are_boxes", .glo "is_house", .glo "is_row", .glo "need_routine", .glo "need_program", .glo "need_both", .glo "calls_of", .glo "house_of", .glo "all_saves", .glo "is_save", .glo "need_saves", .meth "Putter" "lay", .glo "Putter", .mkr "Putter", .meth "Putter" "turned", .glo "with_saves", .glo "put_in", .glo "law", .exc "BadNumber", .glo "BadNumber", .exc "BadSaves", .glo "BadSaves", .glo "_law_kind"]
def ls0 : List Str := ["PactError", "BadProgram", "BadNumber", "TooMany", "NotLet", "BadStates", "BadGiven", "BadFuel", "BadNoise", "BadSaves", "BadText", "BOXES", "RING", "MOST_HOUSES", "MOST_ROUTINES", "MOST_ROWS", "FORMS", "is_number", "are_boxes", "is_house", "is_row", "need_routine", "need_program", "need_both", "house_of", "calls_of", "all_saves", "is_save", "need_saves", "Putter"]
def ls1 : List Str := ["with_saves", "put_in", "_law_mix", "_law_next", "_law_alike", "_law_house", "_law_number", "_law_simple", "_law_calling", "_law_zeroed", "_law_kept", "_law_wild_row", "_law_program", "_law_odd", "_law_wild", "_law_any", "_law_saves", "_law_put_in", "_law_kind"]
def ls : List Str := ls0 ++ ls1
abbrev hk : PySem.W.Hook := Mi.hookX 5 fa fn Mi.tvs lam
def ob (s : PySem.W.SharedT) : (He.AlT × Bool) × Bool := Mi.obsXG 5 fa fn Mi.tvs lam (HandSHeadRun.getT s)
theorem ob_eq (s : PySem.W.SharedT) : ob s = hk.obs s.abs := Mi.obsXG_eq (HandSHeadRun.getT_eq s)
theorem run0 (w : World) : HandSHeadRun.RunEq R (PySem.W.view R.prog [53]) hk ob 9000 ls (w.withFollow "special-get-raises" false) := by
  intro os
  kernel_rfl
theorem run1 (w : World) : HandSHeadRun.RunEq R (PySem.W.view R.prog [53]) hk ob 9000 ls (w.withFollow "special-get-raises" true) := by
  intro os
  kernel_rfl
theorem run (w : World) : HandSHeadRun.RunEq R (PySem.W.view R.prog [53]) hk ob 9000 ls w :=
  PySem.W.byRow2 "special-get-raises" (P := fun w => HandSHeadRun.RunEq R (PySem.W.view R.prog [53]) hk ob 9000 ls w) run0 run1 w
end Hd
namespace Mi
open PySem PySem.Spec PyProof.Rows L2
section
variable [WW] {P : Program} {w : World} {K : PySem.W.Frag} {mg : Str → Option Value} {base h : Heap}
theorem tb_ok (hw : WW.w = w) (c : SaysV Hd.fa Hd.fn tvs w K) (X : K.In h) (G : h.Ns mainGlobals mg) : TbOk w K mg tb where
  con := fun x d hl => by
    have q := mem_look hl
    refine All.mem (p := fun p => ∃ u v, mg p.1 = some u ∧ RelV v u ∧ ∀ φ F, Rep K φ F p.2 v) ?_ q
    exact ⟨(let ⟨t, e⟩ := He.int_ok X G (c.t.d.fact 1 (f := .int "BOXES" 6) rfl); ⟨_, .int 6, e, ⟨t, rfl⟩, fun _ _ => .int _⟩), (let ⟨t, e⟩ := He.int_ok X G (c.t.d.fact 2 (f := .int "RING" 1000) rfl); ⟨_, .int 1000, e, ⟨t, rfl⟩, fun _ _ => .int _⟩), (let ⟨t, e⟩ := He.int_ok X G (c.t.d.fact 3 (f := .int "MOST_HOUSES" 3) rfl); ⟨_, .int 3, e, ⟨t, rfl⟩, fun _ _ => .int _⟩), (let ⟨t, e⟩ := He.int_ok X G (c.t.d.fact 4 (f := .int "MOST_ROUTINES" 6) rfl); ⟨_, .int 6, e, ⟨t, rfl⟩, fun _ _ => .int _⟩), (let ⟨t, e⟩ := He.int_ok X G (c.t.d.fact 5 (f := .int "MOST_ROWS" 32) rfl); ⟨_, .int 32, e, ⟨t, rfl⟩, fun _ _ => .int _⟩), ⟨_, .ref _, He.glo_ok X G (c.t.d.fact 0 (f := .glo "FORMS") rfl), rfl, fun _ _ => .gd _⟩, trivial⟩
  dcs := fun x l hl => by
    have q := mem_look hl
    refine All.mem (p := fun p => dvsOk p.2 = true ∧ He.valsB K (He.ga K p.1) p.2 = true ∧ He.dicW K (He.ga K p.1) = some (He.keysIn w.params (p.2.map (·.1)))) ?_ q
    exact ⟨⟨by decide +kernel, c.vals (t := tvs[0]) (List.getElem_mem _), c.dic 0 rfl⟩, trivial⟩
  fld := fun C fs hl => by
    have q := mem_look hl
    refine All.mem (p := fun p => Cls K (He.ga K p.1) ∧ ∀ f ∈ p.2, NoAttr K (He.ga K p.1) f) ?_ q
    exact ⟨⟨He.cls_ok (c.t.d.fact 22 (f := .cls "Putter") rfl), fun f hf => All.mem (l := ["begins", "found", "rows", "saves"]) (p := fun f => NoAttr K (He.ga K "Putter") f) ⟨He.noat_ok (c.t.d.fact 23 (f := .noat "Putter" "begins") rfl), He.noat_ok (c.t.d.fact 24 (f := .noat "Putter" "found") rfl), He.noat_ok (c.t.d.fact 25 (f := .noat "Putter" "rows") rfl), He.noat_ok (c.t.d.fact 26 (f := .noat "Putter" "saves") rfl), trivial⟩ hf⟩, trivial⟩
  blt := fun x hx => All.mem (l := bltNames) (p := fun x => mg x = none) ⟨He.free_ok X G (c.t.d.fact 6 (f := .free "isinstance") rfl), He.free_ok X G (c.t.d.fact 7 (f := .free "len") rfl), He.free_ok X G (c.t.d.fact 8 (f := .free "range") rfl), He.free_ok X G (c.t.d.fact 9 (f := .free "list") rfl), He.free_ok X G (c.t.d.fact 10 (f := .free "tuple") rfl), He.free_ok X G (c.t.d.fact 11 (f := .free "sorted") rfl), He.free_ok X G (c.t.d.fact 12 (f := .free "set") rfl), He.free_ok X G (c.t.d.fact 13 (f := .free "str") rfl), He.free_ok X G (c.t.d.fact 14 (f := .free "int") rfl), He.free_ok X G (c.t.d.fact 15 (f := .free "bool") rfl), He.free_ok X G (c.t.d.fact 16 (f := .free "zip") rfl), He.free_ok X G (c.t.d.fact 17 (f := .free "max") rfl), He.free_ok X G (c.t.d.fact 18 (f := .free "min") rfl), He.free_ok X G (c.t.d.fact 19 (f := .free "reversed") rfl), He.free_ok X G (c.t.d.fact 20 (f := .free "dict") rfl), He.free_ok X G (c.t.d.fact 21 (f := .free "enumerate") rfl), trivial⟩ hx
  exc := fun x hx => All.mem (l := ["BadNumber", "BadSaves"]) (p := fun x => ExcOk K mg x) ⟨(let ⟨q1, q2, q3, q4⟩ := He.exc_ok (c.t.d.fact 62 (f := .exc "BadNumber") rfl); ⟨q1, q2, q3, q4, He.glo_ok X G (c.t.d.fact 63 (f := .glo "BadNumber") rfl)⟩), (let ⟨q1, q2, q3, q4⟩ := He.exc_ok (c.t.d.fact 64 (f := .exc "BadSaves") rfl); ⟨q1, q2, q3, q4, He.glo_ok X G (c.t.d.fact 65 (f := .glo "BadSaves") rfl)⟩), trivial⟩ hx
  exm := fun x y b hl => by
    have q := mem_look hl
    refine All.mem (p := fun p => PySem.W.exmOne K (.ref (He.ga K p.1.1)) (.ref (He.ga K p.1.2)) = some p.2 ∧ mg p.1.2 = some (.ref (He.ga K p.1.2))) ?_ q
    exact trivial
theorem sc__law_kind : FnScope kinV ["_law_work"] (Hd.d__law_kind.scope) := C8.fnScope_by (by decide +kernel)
theorem ck__law_kind : kindB (Hd.d__law_kind.scope) Hd.d__law_kind.body = true := by decide +kernel
theorem kd_ok (hw : WW.w = w) (c : SaysV Hd.fa Hd.fn tvs w K) (X : K.In h) (G : h.Ns mainGlobals mg) (z : LamZ K mg base Hd.lam) : KindOk P w K mg base := by
  obtain ⟨fd, F⟩ := c.t.d.def_ 34 (d := Hd.d__law_kind) rfl
  exact kind_ok hw F sc__law_kind (F.bindsN fun _ _ _ _ _ _ us hl => match us, hl with | [_], _ => rfl) (He.glo_ok X G (c.t.d.fact 66 (f := .glo "_law_kind") rfl)) F.kp (kindFB_ok X G (tb_ok hw c X G).blt (extra_parts z.ex).1) (by decide +kernel) ck__law_kind
theorem ck__law_alike : chkSs ["_law_found", "_law_due", "_law_k"] (Hd.d__law_alike.scope) true true b__law_alike Hd.d__law_alike.body = true := by decide +kernel
theorem sc__law_alike : FnScope ["_law_found", "_law_due", "_law_k"] ["_law_found", "_law_due"] (Hd.d__law_alike.scope) := C8.fnScope_by (by decide +kernel)
theorem fr__law_alike (hw : WW.w = w) (c : SaysV Hd.fa Hd.fn tvs w K) (X : K.In h) (G : h.Ns mainGlobals mg) (z : LamZ K mg base Hd.lam) : ∀ n : Nat, FnE P w K mg base (0 + 2 * n) "_law_alike" (n__law_alike n)
  | 0 => by
    obtain ⟨fd, F⟩ := c.t.d.def_ 0 (d := Hd.d__law_alike) rfl
    exact ⟨_, fd, ["_law_found", "_law_due"], fn_stuck (n := 0), fun _ _ _ => rfl, He.glo_ok X G (c.t.d.fact 27 (f := .glo "_law_alike") rfl), F.kp, F.bindsN fun _ _ _ _ _ _ us hl => match us, hl with | [_, _], _ => rfl⟩
  | n + 1 => by
    have e := fr__law_alike hw c X G z n
    obtain ⟨fd, F⟩ := c.t.d.def_ 0 (d := Hd.d__law_alike) rfl
    exact ⟨_, fd, ["_law_found", "_law_due"], def_ok (N := ["_law_found", "_law_due", "_law_k"]) F sc__law_alike (gok hw (tb_ok hw c X G) ⟨e, trivial⟩ trivial trivial) ck__law_alike, run_ar, He.glo_ok X G (c.t.d.fact 27 (f := .glo "_law_alike") rfl), F.kp, F.bindsN fun _ _ _ _ _ _ us hl => match us, hl with | [_, _], _ => rfl⟩
theorem fe__law_alike (hw : WW.w = w) (c : SaysV Hd.fa Hd.fn tvs w K) (X : K.In h) (G : h.Ns mainGlobals mg) (z : LamZ K mg base Hd.lam) : FnE P w K mg base 16 "_law_alike" f__law_alike := fr__law_alike hw c X G z 8
theorem ck__law_next : chkSs ["_law_h", "_law_many", "_law_at", "_law_cell"] (Hd.d__law_next.scope) true true b__law_next Hd.d__law_next.body = true := by decide +kernel
theorem sc__law_next : FnScope ["_law_h", "_law_many", "_law_at", "_law_cell"] ["_law_h", "_law_many"] (Hd.d__law_next.scope) := C8.fnScope_by (by decide +kernel)
theorem fe__law_next (hw : WW.w = w) (c : SaysV Hd.fa Hd.fn tvs w K) (X : K.In h) (G : h.Ns mainGlobals mg) (z : LamZ K mg base Hd.lam) : FnE P w K mg base 2 "_law_next" f__law_next := by
  obtain ⟨fd, F⟩ := c.t.d.def_ 1 (d := Hd.d__law_next) rfl
  exact ⟨_, fd, ["_law_h", "_law_many"], def_ok (k := 0) (N := ["_law_h", "_law_many", "_law_at", "_law_cell"]) F sc__law_next (gok hw (tb_ok hw c X G) trivial trivial trivial) ck__law_next, run_ar, He.glo_ok X G (c.t.d.fact 28 (f := .glo "_law_next") rfl), F.kp, F.bindsN fun _ _ _ _ _ _ us hl => match us, hl with | [_, _], _ => rfl⟩
theorem ck__law_number : chkSs ["_law_h"] (Hd.d__law_number.scope) true true b__law_number Hd.d__law_number.body = true := by decide +kernel
theorem sc__law_number : FnScope ["_law_h"] ["_law_h"] (Hd.d__law_number.scope) := C8.fnScope_by (by decide +kernel)
theorem fe__law_number (hw : WW.w = w) (c : SaysV Hd.fa Hd.fn tvs w K) (X : K.In h) (G : h.Ns mainGlobals mg) (z : LamZ K mg base Hd.lam) : FnE P w K mg base 4 "_law_number" f__law_number := by
  obtain ⟨fd, F⟩ := c.t.d.def_ 2 (d := Hd.d__law_number) rfl
  exact ⟨_, fd, ["_law_h"], def_ok (k := 2) (N := ["_law_h"]) F sc__law_number (gok hw (tb_ok hw c X G) ⟨(fe__law_next hw c X G z).mono (by decide), trivial⟩ trivial trivial) ck__law_number, run_ar, He.glo_ok X G (c.t.d.fact 29 (f := .glo "_law_number") rfl), F.kp, F.bindsN fun _ _ _ _ _ _ us hl => match us, hl with | [_], _ => rfl⟩
theorem ck__law_wild_row : chkSs ["_law_h", "_law_rows", "_law_routines", "_law_word", "_law_some", "_law_k"] (Hd.d__law_wild_row.scope) true true b__law_wild_row Hd.d__law_wild_row.body = true := by decide +kernel
theorem sc__law_wild_row : FnScope ["_law_h", "_law_rows", "_law_routines", "_law_word", "_law_some", "_law_k"] ["_law_h", "_law_rows", "_law_routines"] (Hd.d__law_wild_row.scope) := C8.fnScope_by (by decide +kernel)
theorem fe__law_wild_row (hw : WW.w = w) (c : SaysV Hd.fa Hd.fn tvs w K) (X : K.In h) (G : h.Ns mainGlobals mg) (z : LamZ K mg base Hd.lam) : FnE P w K mg base 6 "_law_wild_row" f__law_wild_row := by
  obtain ⟨fd, F⟩ := c.t.d.def_ 3 (d := Hd.d__law_wild_row) rfl
  exact ⟨_, fd, ["_law_h", "_law_rows", "_law_routines"], def_ok (k := 4) (N := ["_law_h", "_law_rows", "_law_routines", "_law_word", "_law_some", "_law_k"]) F sc__law_wild_row (gok hw (tb_ok hw c X G) ⟨(fe__law_next hw c X G z).mono (by decide), (fe__law_number hw c X G z).mono (by decide), trivial⟩ trivial trivial) ck__law_wild_row, run_ar, He.glo_ok X G (c.t.d.fact 30 (f := .glo "_law_wild_row") rfl), F.kp, F.bindsN fun _ _ _ _ _ _ us hl => match us, hl with | [_, _, _], _ => rfl⟩
theorem ck__law_odd : chkSs ["_law_h", "_law_program_here", "_law_turns", "_law_houses", "_law_routines", "_law_turn", "_law_k", "_law_house_here", "_law_rows", "_law_at", "_law_row", "_law_sort", "_law_some", "_law_many", "_law_one"] (Hd.d__law_odd.scope) true true b__law_odd Hd.d__law_odd.body = true := by decide +kernel
theorem sc__law_odd : FnScope ["_law_h", "_law_program_here", "_law_turns", "_law_houses", "_law_routines", "_law_turn", "_law_k", "_law_house_here", "_law_rows", "_law_at", "_law_row", "_law_sort", "_law_some", "_law_many", "_law_one"] ["_law_h", "_law_program_here", "_law_turns"] (Hd.d__law_odd.scope) := C8.fnScope_by (by decide +kernel)
theorem fe__law_odd (hw : WW.w = w) (c : SaysV Hd.fa Hd.fn tvs w K) (X : K.In h) (G : h.Ns mainGlobals mg) (z : LamZ K mg base Hd.lam) : FnE P w K mg base 8 "_law_odd" f__law_odd := by
  obtain ⟨fd, F⟩ := c.t.d.def_ 4 (d := Hd.d__law_odd) rfl
  exact ⟨_, fd, ["_law_h", "_law_program_here", "_law_turns"], def_ok (k := 6) (N := ["_law_h", "_law_program_here", "_law_turns", "_law_houses", "_law_routines", "_law_turn", "_law_k", "_law_house_here", "_law_rows", "_law_at", "_law_row", "_law_sort", "_law_some", "_law_many", "_law_one"]) F sc__law_odd (gok hw (tb_ok hw c X G) ⟨(fe__law_next hw c X G z).mono (by decide), (fe__law_wild_row hw c X G z).mono (by decide), trivial⟩ trivial trivial) ck__law_odd, run_ar, He.glo_ok X G (c.t.d.fact 31 (f := .glo "_law_odd") rfl), F.kp, F.bindsN fun _ _ _ _ _ _ us hl => match us, hl with | [_, _, _], _ => rfl⟩
theorem ck__law_house : chkSs ["_law_h", "_law_few", "_law_sorts", "_law_box", "_law_out", "_law_ins"] (Hd.d__law_house.scope) true true b__law_house Hd.d__law_house.body = true := by decide +kernel
theorem sc__law_house : FnScope ["_law_h", "_law_few", "_law_sorts", "_law_box", "_law_out", "_law_ins"] ["_law_h"] (Hd.d__law_house.scope) := C8.fnScope_by (by decide +kernel)
theorem fe__law_house (hw : WW.w = w) (c : SaysV Hd.fa Hd.fn tvs w K) (X : K.In h) (G : h.Ns mainGlobals mg) (z : LamZ K mg base Hd.lam) : FnE P w K mg base 4 "_law_house" f__law_house := by
  obtain ⟨fd, F⟩ := c.t.d.def_ 5 (d := Hd.d__law_house) rfl
  exact ⟨_, fd, ["_law_h"], def_ok (k := 2) (N := ["_law_h", "_law_few", "_law_sorts", "_law_box", "_law_out", "_law_ins"]) F sc__law_house (gok hw (tb_ok hw c X G) ⟨(fe__law_next hw c X G z).mono (by decide), trivial⟩ trivial trivial) ck__law_house, run_ar, He.glo_ok X G (c.t.d.fact 32 (f := .glo "_law_house") rfl), F.kp, F.bindsN fun _ _ _ _ _ _ us hl => match us, hl with | [_], _ => rfl⟩
theorem ck__law_calling : chkSs ["_law_h", "_law_e", "_law_called", "_law_ins", "_law_out", "_law_kept_here", "_law_fixed", "_law_box", "_law_some", "_law_saved"] (Hd.d__law_calling.scope) true true b__law_calling Hd.d__law_calling.body = true := by decide +kernel
theorem sc__law_calling : FnScope ["_law_h", "_law_e", "_law_called", "_law_ins", "_law_out", "_law_kept_here", "_law_fixed", "_law_box", "_law_some", "_law_saved"] ["_law_h", "_law_e"] (Hd.d__law_calling.scope) := C8.fnScope_by (by decide +kernel)
theorem fe__law_calling (hw : WW.w = w) (c : SaysV Hd.fa Hd.fn tvs w K) (X : K.In h) (G : h.Ns mainGlobals mg) (z : LamZ K mg base Hd.lam) : FnE P w K mg base 6 "_law_calling" f__law_calling := by
  obtain ⟨fd, F⟩ := c.t.d.def_ 6 (d := Hd.d__law_calling) rfl
  exact ⟨_, fd, ["_law_h", "_law_e"], def_ok (k := 4) (N := ["_law_h", "_law_e", "_law_called", "_law_ins", "_law_out", "_law_kept_here", "_law_fixed", "_law_box", "_law_some", "_law_saved"]) F sc__law_calling (gok hw (tb_ok hw c X G) ⟨(fe__law_next hw c X G z).mono (by decide), (fe__law_number hw c X G z).mono (by decide), trivial⟩ trivial trivial) ck__law_calling, run_ar, He.glo_ok X G (c.t.d.fact 33 (f := .glo "_law_calling") rfl), F.kp, F.bindsN fun _ _ _ _ _ _ us hl => match us, hl with | [_, _], _ => rfl⟩
theorem ck__law_simple : chkSs ["_law_h", "_law_e", "_law_good", "_law_box", "_law_goal", "_law_turn", "_law_row", "_law_some", "_law_one", "_law_other"] (Hd.d__law_simple.scope) true true b__law_simple Hd.d__law_simple.body = true := by decide +kernel
theorem sc__law_simple : FnScope ["_law_h", "_law_e", "_law_good", "_law_box", "_law_goal", "_law_turn", "_law_row", "_law_some", "_law_one", "_law_other"] ["_law_h", "_law_e"] (Hd.d__law_simple.scope) := C8.fnScope_by (by decide +kernel)
theorem fe__law_simple (hw : WW.w = w) (c : SaysV Hd.fa Hd.fn tvs w K) (X : K.In h) (G : h.Ns mainGlobals mg) (z : LamZ K mg base Hd.lam) : FnE P w K mg base 6 "_law_simple" f__law_simple := by
  obtain ⟨fd, F⟩ := c.t.d.def_ 7 (d := Hd.d__law_simple) rfl
  exact ⟨_, fd, ["_law_h", "_law_e"], def_ok (k := 4) (N := ["_law_h", "_law_e", "_law_good", "_law_box", "_law_goal", "_law_turn", "_law_row", "_law_some", "_law_one", "_law_other"]) F sc__law_simple (gok hw (tb_ok hw c X G) ⟨(fe__law_next hw c X G z).mono (by decide), (fe__law_number hw c X G z).mono (by decide), trivial⟩ trivial trivial) ck__law_simple, run_ar, He.glo_ok X G (c.t.d.fact 34 (f := .glo "_law_simple") rfl), F.kp, F.bindsN fun _ _ _ _ _ _ us hl => match us, hl with | [_, _], _ => rfl⟩
theorem ck__law_zeroed : chkSs ["_law_h", "_law_e", "_law_good", "_law_box", "_law_test", "_law_place", "_law_before", "_law_k"] (Hd.d__law_zeroed.scope) true true b__law_zeroed Hd.d__law_zeroed.body = true := by decide +kernel
theorem sc__law_zeroed : FnScope ["_law_h", "_law_e", "_law_good", "_law_box", "_law_test", "_law_place", "_law_before", "_law_k"] ["_law_h", "_law_e"] (Hd.d__law_zeroed.scope) := C8.fnScope_by (by decide +kernel)
theorem fe__law_zeroed (hw : WW.w = w) (c : SaysV Hd.fa Hd.fn tvs w K) (X : K.In h) (G : h.Ns mainGlobals mg) (z : LamZ K mg base Hd.lam) : FnE P w K mg base 8 "_law_zeroed" f__law_zeroed := by
  obtain ⟨fd, F⟩ := c.t.d.def_ 8 (d := Hd.d__law_zeroed) rfl
  exact ⟨_, fd, ["_law_h", "_law_e"], def_ok (k := 6) (N := ["_law_h", "_law_e", "_law_good", "_law_box", "_law_test", "_law_place", "_law_before", "_law_k"]) F sc__law_zeroed (gok hw (tb_ok hw c X G) ⟨(fe__law_next hw c X G z).mono (by decide), (fe__law_simple hw c X G z).mono (by decide), trivial⟩ trivial trivial) ck__law_zeroed, run_ar, He.glo_ok X G (c.t.d.fact 35 (f := .glo "_law_zeroed") rfl), F.kp, F.bindsN fun _ _ _ _ _ _ us hl => match us, hl with | [_, _], _ => rfl⟩
theorem ck__law_kept : chkSs ["_law_h", "_law_houses", "_law_owners", "_law_number_here", "_law_most", "_law_ins", "_law_out", "_law_kept_here", "_law_saved", "_law_box", "_law_e", "_law_k", "_law_turn", "_law_rows"] (Hd.d__law_kept.scope) true true b__law_kept Hd.d__law_kept.body = true := by decide +kernel
theorem sc__law_kept : FnScope ["_law_h", "_law_houses", "_law_owners", "_law_number_here", "_law_most", "_law_ins", "_law_out", "_law_kept_here", "_law_saved", "_law_box", "_law_e", "_law_k", "_law_turn", "_law_rows"] ["_law_h", "_law_houses", "_law_owners", "_law_number_here", "_law_most"] (Hd.d__law_kept.scope) := C8.fnScope_by (by decide +kernel)
theorem fe__law_kept (hw : WW.w = w) (c : SaysV Hd.fa Hd.fn tvs w K) (X : K.In h) (G : h.Ns mainGlobals mg) (z : LamZ K mg base Hd.lam) : FnE P w K mg base 10 "_law_kept" f__law_kept := by
  obtain ⟨fd, F⟩ := c.t.d.def_ 9 (d := Hd.d__law_kept) rfl
  exact ⟨_, fd, ["_law_h", "_law_houses", "_law_owners", "_law_number_here", "_law_most"], def_ok (k := 8) (N := ["_law_h", "_law_houses", "_law_owners", "_law_number_here", "_law_most", "_law_ins", "_law_out", "_law_kept_here", "_law_saved", "_law_box", "_law_e", "_law_k", "_law_turn", "_law_rows"]) F sc__law_kept (gok hw (tb_ok hw c X G) ⟨(fe__law_calling hw c X G z).mono (by decide), (fe__law_next hw c X G z).mono (by decide), (fe__law_number hw c X G z).mono (by decide), (fe__law_simple hw c X G z).mono (by decide), (fe__law_zeroed hw c X G z).mono (by decide), trivial⟩ trivial trivial) ck__law_kept, run_ar, He.glo_ok X G (c.t.d.fact 36 (f := .glo "_law_kept") rfl), F.kp, F.bindsN fun _ _ _ _ _ _ us hl => match us, hl with | [_, _, _, _, _], _ => rfl⟩
theorem ck__law_program : chkSs ["_law_h", "_law_most", "_law_houses", "_law_k", "_law_owners", "_law_size", "_law_number_here"] (Hd.d__law_program.scope) true true b__law_program Hd.d__law_program.body = true := by decide +kernel
theorem sc__law_program : FnScope ["_law_h", "_law_most", "_law_houses", "_law_k", "_law_owners", "_law_size", "_law_number_here"] ["_law_h", "_law_most"] (Hd.d__law_program.scope) := C8.fnScope_by (by decide +kernel)
theorem fe__law_program (hw : WW.w = w) (c : SaysV Hd.fa Hd.fn tvs w K) (X : K.In h) (G : h.Ns mainGlobals mg) (z : LamZ K mg base Hd.lam) : FnE P w K mg base 12 "_law_program" f__law_program := by
  obtain ⟨fd, F⟩ := c.t.d.def_ 10 (d := Hd.d__law_program) rfl
  exact ⟨_, fd, ["_law_h", "_law_most"], def_ok (k := 10) (N := ["_law_h", "_law_most", "_law_houses", "_law_k", "_law_owners", "_law_size", "_law_number_here"]) F sc__law_program (gok hw (tb_ok hw c X G) ⟨(fe__law_house hw c X G z).mono (by decide), (fe__law_kept hw c X G z).mono (by decide), (fe__law_next hw c X G z).mono (by decide), trivial⟩ trivial trivial) ck__law_program, run_ar, He.glo_ok X G (c.t.d.fact 37 (f := .glo "_law_program") rfl), F.kp, F.bindsN fun _ _ _ _ _ _ us hl => match us, hl with | [_, _], _ => rfl⟩
theorem ck__law_wild : chkSs ["_law_h", "_law_most", "_law_houses", "_law_k", "_law_many", "_law_found", "_law_rows", "_law_some", "_law_row"] (Hd.d__law_wild.scope) true true b__law_wild Hd.d__law_wild.body = true := by decide +kernel
theorem sc__law_wild : FnScope ["_law_h", "_law_most", "_law_houses", "_law_k", "_law_many", "_law_found", "_law_rows", "_law_some", "_law_row"] ["_law_h", "_law_most"] (Hd.d__law_wild.scope) := C8.fnScope_by (by decide +kernel)
theorem fe__law_wild (hw : WW.w = w) (c : SaysV Hd.fa Hd.fn tvs w K) (X : K.In h) (G : h.Ns mainGlobals mg) (z : LamZ K mg base Hd.lam) : FnE P w K mg base 8 "_law_wild" f__law_wild := by
  obtain ⟨fd, F⟩ := c.t.d.def_ 11 (d := Hd.d__law_wild) rfl
  exact ⟨_, fd, ["_law_h", "_law_most"], def_ok (k := 6) (N := ["_law_h", "_law_most", "_law_houses", "_law_k", "_law_many", "_law_found", "_law_rows", "_law_some", "_law_row"]) F sc__law_wild (gok hw (tb_ok hw c X G) ⟨(fe__law_house hw c X G z).mono (by decide), (fe__law_next hw c X G z).mono (by decide), (fe__law_wild_row hw c X G z).mono (by decide), trivial⟩ trivial trivial) ck__law_wild, run_ar, He.glo_ok X G (c.t.d.fact 38 (f := .glo "_law_wild") rfl), F.kp, F.bindsN fun _ _ _ _ _ _ us hl => match us, hl with | [_, _], _ => rfl⟩
theorem ck__law_any : chkSs ["_law_h", "_law_turn", "_law_program_here"] (Hd.d__law_any.scope) true true b__law_any Hd.d__law_any.body = true := by decide +kernel
theorem sc__law_any : FnScope ["_law_h", "_law_turn", "_law_program_here"] ["_law_h"] (Hd.d__law_any.scope) := C8.fnScope_by (by decide +kernel)
theorem fe__law_any (hw : WW.w = w) (c : SaysV Hd.fa Hd.fn tvs w K) (X : K.In h) (G : h.Ns mainGlobals mg) (z : LamZ K mg base Hd.lam) : FnE P w K mg base 14 "_law_any" f__law_any := by
  obtain ⟨fd, F⟩ := c.t.d.def_ 12 (d := Hd.d__law_any) rfl
  exact ⟨_, fd, ["_law_h"], def_ok (k := 12) (N := ["_law_h", "_law_turn", "_law_program_here"]) F sc__law_any (gok hw (tb_ok hw c X G) ⟨(fe__law_next hw c X G z).mono (by decide), (fe__law_odd hw c X G z).mono (by decide), (fe__law_program hw c X G z).mono (by decide), (fe__law_wild hw c X G z).mono (by decide), trivial⟩ trivial trivial) ck__law_any, run_ar, He.glo_ok X G (c.t.d.fact 39 (f := .glo "_law_any") rfl), F.kp, F.bindsN fun _ _ _ _ _ _ us hl => match us, hl with | [_], _ => rfl⟩
theorem ck__law_mix : chkSs ["_law_script", "_law_seed", "_law_mixed", "_law_cell"] (Hd.d__law_mix.scope) true true b__law_mix Hd.d__law_mix.body = true := by decide +kernel
theorem sc__law_mix : FnScope ["_law_script", "_law_seed", "_law_mixed", "_law_cell"] ["_law_script", "_law_seed"] (Hd.d__law_mix.scope) := C8.fnScope_by (by decide +kernel)
theorem fe__law_mix (hw : WW.w = w) (c : SaysV Hd.fa Hd.fn tvs w K) (X : K.In h) (G : h.Ns mainGlobals mg) (z : LamZ K mg base Hd.lam) : FnE P w K mg base 2 "_law_mix" f__law_mix := by
  obtain ⟨fd, F⟩ := c.t.d.def_ 13 (d := Hd.d__law_mix) rfl
  exact ⟨_, fd, ["_law_script", "_law_seed"], def_ok (k := 0) (N := ["_law_script", "_law_seed", "_law_mixed", "_law_cell"]) F sc__law_mix (gok hw (tb_ok hw c X G) trivial trivial trivial) ck__law_mix, run_ar, He.glo_ok X G (c.t.d.fact 40 (f := .glo "_law_mix") rfl), F.kp, F.bindsN fun _ _ _ _ _ _ us hl => match us, hl with | [_, _], _ => rfl⟩
theorem ck__law_put_in : chkSs ["_law_program_here", "_law_number_here", "_law_saves_here", "_law_houses", "_law_routines", "_law_house_here", "_law_rows", "_law_whole", "_law_row", "_law_box", "_law_found", "_law_begins", "_law_k", "_law_about"] (Hd.d__law_put_in.scope) true true b__law_put_in Hd.d__law_put_in.body = true := by decide +kernel
theorem sc__law_put_in : FnScope ["_law_program_here", "_law_number_here", "_law_saves_here", "_law_houses", "_law_routines", "_law_house_here", "_law_rows", "_law_whole", "_law_row", "_law_box", "_law_found", "_law_begins", "_law_k", "_law_about"] ["_law_program_here", "_law_number_here", "_law_saves_here"] (Hd.d__law_put_in.scope) := C8.fnScope_by (by decide +kernel)
theorem fe__law_put_in (hw : WW.w = w) (c : SaysV Hd.fa Hd.fn tvs w K) (X : K.In h) (G : h.Ns mainGlobals mg) (z : LamZ K mg base Hd.lam) : FnE P w K mg base 2 "_law_put_in" f__law_put_in := by
  obtain ⟨fd, F⟩ := c.t.d.def_ 14 (d := Hd.d__law_put_in) rfl
  exact ⟨_, fd, ["_law_program_here", "_law_number_here", "_law_saves_here"], def_ok (k := 0) (N := ["_law_program_here", "_law_number_here", "_law_saves_here", "_law_houses", "_law_routines", "_law_house_here", "_law_rows", "_law_whole", "_law_row", "_law_box", "_law_found", "_law_begins", "_law_k", "_law_about"]) F sc__law_put_in (gok hw (tb_ok hw c X G) trivial trivial trivial) ck__law_put_in, run_ar, He.glo_ok X G (c.t.d.fact 41 (f := .glo "_law_put_in") rfl), F.kp, F.bindsN fun _ _ _ _ _ _ us hl => match us, hl with | [_, _, _], _ => rfl⟩
theorem ck__law_saves : chkSs ["_law_h", "_law_program_here", "_law_number_here", "_law_most", "_law_rows", "_law_places", "_law_row", "_law_some", "_law_k", "_law_place", "_law_told"] (Hd.d__law_saves.scope) true true b__law_saves Hd.d__law_saves.body = true := by decide +kernel
theorem sc__law_saves : FnScope ["_law_h", "_law_program_here", "_law_number_here", "_law_most", "_law_rows", "_law_places", "_law_row", "_law_some", "_law_k", "_law_place", "_law_told"] ["_law_h", "_law_program_here", "_law_number_here", "_law_most"] (Hd.d__law_saves.scope) := C8.fnScope_by (by decide +kernel)
theorem fe__law_saves (hw : WW.w = w) (c : SaysV Hd.fa Hd.fn tvs w K) (X : K.In h) (G : h.Ns mainGlobals mg) (z : LamZ K mg base Hd.lam) : FnE P w K mg base 4 "_law_saves" f__law_saves := by
  obtain ⟨fd, F⟩ := c.t.d.def_ 15 (d := Hd.d__law_saves) rfl
  exact ⟨_, fd, ["_law_h", "_law_program_here", "_law_number_here", "_law_most"], def_ok (k := 2) (N := ["_law_h", "_law_program_here", "_law_number_here", "_law_most", "_law_rows", "_law_places", "_law_row", "_law_some", "_law_k", "_law_place", "_law_told"]) F sc__law_saves (gok hw (tb_ok hw c X G) ⟨(fe__law_next hw c X G z).mono (by decide), trivial⟩ trivial trivial) ck__law_saves, run_ar, He.glo_ok X G (c.t.d.fact 42 (f := .glo "_law_saves") rfl), F.kp, F.bindsN fun _ _ _ _ _ _ us hl => match us, hl with | [_, _, _, _], _ => rfl⟩
theorem ck_is_number : chkSs ["part", "low", "high"] (Hd.d_is_number.scope) true true b_is_number Hd.d_is_number.body = true := by decide +kernel
theorem sc_is_number : FnScope ["part", "low", "high"] ["part", "low", "high"] (Hd.d_is_number.scope) := C8.fnScope_by (by decide +kernel)
theorem fe_is_number (hw : WW.w = w) (c : SaysV Hd.fa Hd.fn tvs w K) (X : K.In h) (G : h.Ns mainGlobals mg) (z : LamZ K mg base Hd.lam) : FnE P w K mg base 2 "is_number" f_is_number := by
  obtain ⟨fd, F⟩ := c.t.d.def_ 16 (d := Hd.d_is_number) rfl
  exact ⟨_, fd, ["part", "low", "high"], def_ok (k := 0) (N := ["part", "low", "high"]) F sc_is_number (gok hw (tb_ok hw c X G) trivial trivial trivial) ck_is_number, run_ar, He.glo_ok X G (c.t.d.fact 43 (f := .glo "is_number") rfl), F.kp, F.bindsN fun _ _ _ _ _ _ us hl => match us, hl with | [_, _, _], _ => rfl⟩
theorem ck_are_boxes : chkSs ["boxes", "box"] (Hd.d_are_boxes.scope) true true b_are_boxes Hd.d_are_boxes.body = true := by decide +kernel
theorem sc_are_boxes : FnScope ["boxes", "box"] ["boxes"] (Hd.d_are_boxes.scope) := C8.fnScope_by (by decide +kernel)
theorem fe_are_boxes (hw : WW.w = w) (c : SaysV Hd.fa Hd.fn tvs w K) (X : K.In h) (G : h.Ns mainGlobals mg) (z : LamZ K mg base Hd.lam) : FnE P w K mg base 4 "are_boxes" f_are_boxes := by
  obtain ⟨fd, F⟩ := c.t.d.def_ 17 (d := Hd.d_are_boxes) rfl
  exact ⟨_, fd, ["boxes"], def_ok (k := 2) (N := ["boxes", "box"]) F sc_are_boxes (gok hw (tb_ok hw c X G) ⟨(fe_is_number hw c X G z).mono (by decide), trivial⟩ trivial trivial) ck_are_boxes, run_ar, He.glo_ok X G (c.t.d.fact 44 (f := .glo "are_boxes") rfl), F.kp, F.bindsN fun _ _ _ _ _ _ us hl => match us, hl with | [_], _ => rfl⟩
theorem ck_is_house : chkSs ["house", "ins", "out", "kept", "box"] (Hd.d_is_house.scope) true true b_is_house Hd.d_is_house.body = true := by decide +kernel
theorem sc_is_house : FnScope ["house", "ins", "out", "kept", "box"] ["house"] (Hd.d_is_house.scope) := C8.fnScope_by (by decide +kernel)
theorem fe_is_house (hw : WW.w = w) (c : SaysV Hd.fa Hd.fn tvs w K) (X : K.In h) (G : h.Ns mainGlobals mg) (z : LamZ K mg base Hd.lam) : FnE P w K mg base 6 "is_house" f_is_house := by
  obtain ⟨fd, F⟩ := c.t.d.def_ 18 (d := Hd.d_is_house) rfl
  exact ⟨_, fd, ["house"], def_ok (k := 4) (N := ["house", "ins", "out", "kept", "box"]) F sc_is_house (gok hw (tb_ok hw c X G) ⟨(fe_are_boxes hw c X G z).mono (by decide), (fe_is_number hw c X G z).mono (by decide), trivial⟩ trivial trivial) ck_is_house, run_ar, He.glo_ok X G (c.t.d.fact 45 (f := .glo "is_house") rfl), F.kp, F.bindsN fun _ _ _ _ _ _ us hl => match us, hl with | [_], _ => rfl⟩
theorem ck_is_row : chkSs ["row", "rows", "routines", "most", "form", "part", "sort"] (Hd.d_is_row.scope) true true b_is_row Hd.d_is_row.body = true := by decide +kernel
theorem sc_is_row : FnScope ["row", "rows", "routines", "most", "form", "part", "sort"] ["row", "rows", "routines"] (Hd.d_is_row.scope) := C8.fnScope_by (by decide +kernel)
theorem fe_is_row (hw : WW.w = w) (c : SaysV Hd.fa Hd.fn tvs w K) (X : K.In h) (G : h.Ns mainGlobals mg) (z : LamZ K mg base Hd.lam) : FnE P w K mg base 4 "is_row" f_is_row := by
  obtain ⟨fd, F⟩ := c.t.d.def_ 19 (d := Hd.d_is_row) rfl
  exact ⟨_, fd, ["row", "rows", "routines"], def_ok (k := 2) (N := ["row", "rows", "routines", "most", "form", "part", "sort"]) F sc_is_row (gok hw (tb_ok hw c X G) ⟨(fe_is_number hw c X G z).mono (by decide), trivial⟩ trivial trivial) ck_is_row, run_ar, He.glo_ok X G (c.t.d.fact 46 (f := .glo "is_row") rfl), F.kp, F.bindsN fun _ _ _ _ _ _ us hl => match us, hl with | [_, _, _], _ => rfl⟩
theorem ck_need_routine : chkSs ["number", "routine", "houses", "routines", "good", "rows", "row"] (Hd.d_need_routine.scope) true true b_need_routine Hd.d_need_routine.body = true := by decide +kernel
theorem sc_need_routine : FnScope ["number", "routine", "houses", "routines", "good", "rows", "row"] ["number", "routine", "houses", "routines"] (Hd.d_need_routine.scope) := C8.fnScope_by (by decide +kernel)
theorem fe_need_routine (hw : WW.w = w) (c : SaysV Hd.fa Hd.fn tvs w K) (X : K.In h) (G : h.Ns mainGlobals mg) (z : LamZ K mg base Hd.lam) : FnE P w K mg base 6 "need_routine" f_need_routine := by
  obtain ⟨fd, F⟩ := c.t.d.def_ 20 (d := Hd.d_need_routine) rfl
  exact ⟨_, fd, ["number", "routine", "houses", "routines"], def_ok (k := 4) (N := ["number", "routine", "houses", "routines", "good", "rows", "row"]) F sc_need_routine (gok hw (tb_ok hw c X G) ⟨(fe_is_number hw c X G z).mono (by decide), (fe_is_row hw c X G z).mono (by decide), trivial⟩ trivial trivial) ck_need_routine, run_ar, He.glo_ok X G (c.t.d.fact 47 (f := .glo "need_routine") rfl), F.kp, F.bindsN fun _ _ _ _ _ _ us hl => match us, hl with | [_, _, _, _], _ => rfl⟩
theorem ck_need_program : chkSs ["program", "houses", "routines", "number"] (Hd.d_need_program.scope) true true b_need_program Hd.d_need_program.body = true := by decide +kernel
theorem sc_need_program : FnScope ["program", "houses", "routines", "number"] ["program"] (Hd.d_need_program.scope) := C8.fnScope_by (by decide +kernel)
theorem fe_need_program (hw : WW.w = w) (c : SaysV Hd.fa Hd.fn tvs w K) (X : K.In h) (G : h.Ns mainGlobals mg) (z : LamZ K mg base Hd.lam) : FnE P w K mg base 8 "need_program" f_need_program := by
  obtain ⟨fd, F⟩ := c.t.d.def_ 21 (d := Hd.d_need_program) rfl
  exact ⟨_, fd, ["program"], def_ok (k := 6) (N := ["program", "houses", "routines", "number"]) F sc_need_program (gok hw (tb_ok hw c X G) ⟨(fe_is_house hw c X G z).mono (by decide), (fe_need_routine hw c X G z).mono (by decide), trivial⟩ trivial trivial) ck_need_program, run_ar, He.glo_ok X G (c.t.d.fact 48 (f := .glo "need_program") rfl), F.kp, F.bindsN fun _ _ _ _ _ _ us hl => match us, hl with | [_], _ => rfl⟩
theorem ck_need_both : chkSs ["program", "routine"] (Hd.d_need_both.scope) true true b_need_both Hd.d_need_both.body = true := by decide +kernel
theorem sc_need_both : FnScope ["program", "routine"] ["program", "routine"] (Hd.d_need_both.scope) := C8.fnScope_by (by decide +kernel)
theorem fe_need_both (hw : WW.w = w) (c : SaysV Hd.fa Hd.fn tvs w K) (X : K.In h) (G : h.Ns mainGlobals mg) (z : LamZ K mg base Hd.lam) : FnE P w K mg base 10 "need_both" f_need_both := by
  obtain ⟨fd, F⟩ := c.t.d.def_ 22 (d := Hd.d_need_both) rfl
  exact ⟨_, fd, ["program", "routine"], def_ok (k := 8) (N := ["program", "routine"]) F sc_need_both (gok hw (tb_ok hw c X G) ⟨(fe_is_number hw c X G z).mono (by decide), (fe_need_program hw c X G z).mono (by decide), trivial⟩ trivial trivial) ck_need_both, run_ar, He.glo_ok X G (c.t.d.fact 49 (f := .glo "need_both") rfl), F.kp, F.bindsN fun _ _ _ _ _ _ us hl => match us, hl with | [_, _], _ => rfl⟩
theorem ck_calls_of : chkSs ["program", "routine", "rows", "row"] (Hd.d_calls_of.scope) true true b_calls_of Hd.d_calls_of.body = true := by decide +kernel
theorem sc_calls_of : FnScope ["program", "routine", "rows", "row"] ["program", "routine"] (Hd.d_calls_of.scope) := C8.fnScope_by (by decide +kernel)
theorem fe_calls_of (hw : WW.w = w) (c : SaysV Hd.fa Hd.fn tvs w K) (X : K.In h) (G : h.Ns mainGlobals mg) (z : LamZ K mg base Hd.lam) : FnE P w K mg base 2 "calls_of" f_calls_of := by
  obtain ⟨fd, F⟩ := c.t.d.def_ 23 (d := Hd.d_calls_of) rfl
  exact ⟨_, fd, ["program", "routine"], def_ok (k := 0) (N := ["program", "routine", "rows", "row"]) F sc_calls_of (gok hw (tb_ok hw c X G) trivial trivial trivial) ck_calls_of, run_ar, He.glo_ok X G (c.t.d.fact 50 (f := .glo "calls_of") rfl), F.kp, F.bindsN fun _ _ _ _ _ _ us hl => match us, hl with | [_, _], _ => rfl⟩
theorem ck_house_of : chkSs ["program", "routine"] (Hd.d_house_of.scope) true true b_house_of Hd.d_house_of.body = true := by decide +kernel
theorem sc_house_of : FnScope ["program", "routine"] ["program", "routine"] (Hd.d_house_of.scope) := C8.fnScope_by (by decide +kernel)
theorem fe_house_of (hw : WW.w = w) (c : SaysV Hd.fa Hd.fn tvs w K) (X : K.In h) (G : h.Ns mainGlobals mg) (z : LamZ K mg base Hd.lam) : FnE P w K mg base 2 "house_of" f_house_of := by
  obtain ⟨fd, F⟩ := c.t.d.def_ 24 (d := Hd.d_house_of) rfl
  exact ⟨_, fd, ["program", "routine"], def_ok (k := 0) (N := ["program", "routine"]) F sc_house_of (gok hw (tb_ok hw c X G) trivial trivial trivial) ck_house_of, run_ar, He.glo_ok X G (c.t.d.fact 51 (f := .glo "house_of") rfl), F.kp, F.bindsN fun _ _ _ _ _ _ us hl => match us, hl with | [_, _], _ => rfl⟩
theorem ck_all_saves : chkSs ["program", "routine", "rows", "found", "box", "row", "out"] (Hd.d_all_saves.scope) true true b_all_saves Hd.d_all_saves.body = true := by decide +kernel
theorem sc_all_saves : FnScope ["program", "routine", "rows", "found", "box", "row", "out"] ["program", "routine"] (Hd.d_all_saves.scope) := C8.fnScope_by (by decide +kernel)
theorem fe_all_saves (hw : WW.w = w) (c : SaysV Hd.fa Hd.fn tvs w K) (X : K.In h) (G : h.Ns mainGlobals mg) (z : LamZ K mg base Hd.lam) : FnE P w K mg base 4 "all_saves" f_all_saves := by
  obtain ⟨fd, F⟩ := c.t.d.def_ 25 (d := Hd.d_all_saves) rfl
  exact ⟨_, fd, ["program", "routine"], def_ok (k := 2) (N := ["program", "routine", "rows", "found", "box", "row", "out"]) F sc_all_saves (gok hw (tb_ok hw c X G) ⟨(fe_calls_of hw c X G z).mono (by decide), (fe_house_of hw c X G z).mono (by decide), trivial⟩ trivial trivial) ck_all_saves, run_ar, He.glo_ok X G (c.t.d.fact 52 (f := .glo "all_saves") rfl), F.kp, F.bindsN fun _ _ _ _ _ _ us hl => match us, hl with | [_, _], _ => rfl⟩
theorem ck_is_save : chkSs ["save", "every"] (Hd.d_is_save.scope) true true b_is_save Hd.d_is_save.body = true := by decide +kernel
theorem sc_is_save : FnScope ["save", "every"] ["save", "every"] (Hd.d_is_save.scope) := C8.fnScope_by (by decide +kernel)
theorem fe_is_save (hw : WW.w = w) (c : SaysV Hd.fa Hd.fn tvs w K) (X : K.In h) (G : h.Ns mainGlobals mg) (z : LamZ K mg base Hd.lam) : FnE P w K mg base 4 "is_save" f_is_save := by
  obtain ⟨fd, F⟩ := c.t.d.def_ 26 (d := Hd.d_is_save) rfl
  exact ⟨_, fd, ["save", "every"], def_ok (k := 2) (N := ["save", "every"]) F sc_is_save (gok hw (tb_ok hw c X G) ⟨(fe_is_number hw c X G z).mono (by decide), trivial⟩ trivial trivial) ck_is_save, run_ar, He.glo_ok X G (c.t.d.fact 53 (f := .glo "is_save") rfl), F.kp, F.bindsN fun _ _ _ _ _ _ us hl => match us, hl with | [_, _], _ => rfl⟩
theorem ck_need_saves : chkSs ["program", "routine", "saves", "every", "save"] (Hd.d_need_saves.scope) true true b_need_saves Hd.d_need_saves.body = true := by decide +kernel
theorem sc_need_saves : FnScope ["program", "routine", "saves", "every", "save"] ["program", "routine", "saves"] (Hd.d_need_saves.scope) := C8.fnScope_by (by decide +kernel)
theorem fe_need_saves (hw : WW.w = w) (c : SaysV Hd.fa Hd.fn tvs w K) (X : K.In h) (G : h.Ns mainGlobals mg) (z : LamZ K mg base Hd.lam) : FnE P w K mg base 6 "need_saves" f_need_saves := by
  obtain ⟨fd, F⟩ := c.t.d.def_ 27 (d := Hd.d_need_saves) rfl
  exact ⟨_, fd, ["program", "routine", "saves"], def_ok (k := 4) (N := ["program", "routine", "saves", "every", "save"]) F sc_need_saves (gok hw (tb_ok hw c X G) ⟨(fe_all_saves hw c X G z).mono (by decide), (fe_is_save hw c X G z).mono (by decide), trivial⟩ trivial trivial) ck_need_saves, run_ar, He.glo_ok X G (c.t.d.fact 54 (f := .glo "need_saves") rfl), F.kp, F.bindsN fun _ _ _ _ _ _ us hl => match us, hl with | [_, _, _], _ => rfl⟩
theorem ck_Putter_lay : chkSs ["self", "number", "row", "about", "box"] (Hd.d_Putter_lay.scope) true true b_Putter_lay Hd.d_Putter_lay.body = true := by decide +kernel
theorem sc_Putter_lay : FnScope ["self", "number", "row", "about", "box"] ["self", "number"] (Hd.d_Putter_lay.scope) := C8.fnScope_by (by decide +kernel)
theorem fe_Putter_lay (hw : WW.w = w) (c : SaysV Hd.fa Hd.fn tvs w K) (X : K.In h) (G : h.Ns mainGlobals mg) (z : LamZ K mg base Hd.lam) : MetE P w K mg base 2 ("Putter", "lay") f_Putter_lay := by
  obtain ⟨fd, F⟩ := c.t.d.def_ 28 (d := Hd.d_Putter_lay) rfl
  exact ⟨_, fd, ["self", "number"], def_ok (k := 0) (N := ["self", "number", "row", "about", "box"]) F sc_Putter_lay (gok hw (tb_ok hw c X G) trivial trivial trivial) ck_Putter_lay, run_ar, He.meth_ok (c.t.d.fact 55 (f := .meth "Putter" "lay") rfl), He.cls_ok (c.t.d.fact 22 (f := .cls "Putter") rfl), F.bindsN fun _ _ _ _ _ _ us hl => match us, hl with | [_, _], _ => rfl⟩
theorem ck_Putter___init__ : chkSs ["self", "rows", "saves", "place", "box", "row"] (Hd.d_Putter___init__.scope) true true b_Putter___init__ Hd.d_Putter___init__.body = true := by decide +kernel
theorem sc_Putter___init__ : FnScope ["self", "rows", "saves", "place", "box", "row"] ["self", "rows", "saves"] (Hd.d_Putter___init__.scope) := C8.fnScope_by (by decide +kernel)
theorem fe_Putter___init__ (hw : WW.w = w) (c : SaysV Hd.fa Hd.fn tvs w K) (X : K.In h) (G : h.Ns mainGlobals mg) (z : LamZ K mg base Hd.lam) : IniE P w K mg base 4 "Putter" f_Putter___init__ := by
  obtain ⟨fd, F⟩ := c.t.d.def_ 29 (d := Hd.d_Putter___init__) rfl
  exact ⟨_, fd, ["self", "rows", "saves"], def_ok (k := 2) (N := ["self", "rows", "saves", "place", "box", "row"]) F sc_Putter___init__ (gok hw (tb_ok hw c X G) trivial trivial ⟨(fe_Putter_lay hw c X G z).mono (by decide), trivial⟩) ck_Putter___init__, run_ar, He.mkr_ok (c.t.d.fact 57 (f := .mkr "Putter") rfl), He.glo_ok X G (c.t.d.fact 56 (f := .glo "Putter") rfl), F.bindsN fun _ _ _ _ _ _ us hl => match us, hl with | [_, _, _], _ => rfl⟩
theorem ck_Putter_turned : chkSs ["self", "found", "row"] (Hd.d_Putter_turned.scope) true true b_Putter_turned Hd.d_Putter_turned.body = true := by decide +kernel
theorem sc_Putter_turned : FnScope ["self", "found", "row"] ["self"] (Hd.d_Putter_turned.scope) := C8.fnScope_by (by decide +kernel)
theorem fe_Putter_turned (hw : WW.w = w) (c : SaysV Hd.fa Hd.fn tvs w K) (X : K.In h) (G : h.Ns mainGlobals mg) (z : LamZ K mg base Hd.lam) : MetE P w K mg base 2 ("Putter", "turned") f_Putter_turned := by
  obtain ⟨fd, F⟩ := c.t.d.def_ 30 (d := Hd.d_Putter_turned) rfl
  exact ⟨_, fd, ["self"], def_ok (k := 0) (N := ["self", "found", "row"]) F sc_Putter_turned (gok hw (tb_ok hw c X G) trivial trivial trivial) ck_Putter_turned, run_ar, He.meth_ok (c.t.d.fact 58 (f := .meth "Putter" "turned") rfl), He.cls_ok (c.t.d.fact 22 (f := .cls "Putter") rfl), F.bindsN fun _ _ _ _ _ _ us hl => match us, hl with | [_], _ => rfl⟩
theorem ck_with_saves : chkSs ["program", "routine", "saves", "houses", "routines", "house", "rows", "other"] (Hd.d_with_saves.scope) true true b_with_saves Hd.d_with_saves.body = true := by decide +kernel
theorem sc_with_saves : FnScope ["program", "routine", "saves", "houses", "routines", "house", "rows", "other"] ["program", "routine", "saves"] (Hd.d_with_saves.scope) := C8.fnScope_by (by decide +kernel)
theorem fe_with_saves (hw : WW.w = w) (c : SaysV Hd.fa Hd.fn tvs w K) (X : K.In h) (G : h.Ns mainGlobals mg) (z : LamZ K mg base Hd.lam) : FnE P w K mg base 6 "with_saves" f_with_saves := by
  obtain ⟨fd, F⟩ := c.t.d.def_ 31 (d := Hd.d_with_saves) rfl
  exact ⟨_, fd, ["program", "routine", "saves"], def_ok (k := 4) (N := ["program", "routine", "saves", "houses", "routines", "house", "rows", "other"]) F sc_with_saves (gok hw (tb_ok hw c X G) trivial ⟨(fe_Putter___init__ hw c X G z).mono (by decide), trivial⟩ ⟨(fe_Putter_turned hw c X G z).mono (by decide), trivial⟩) ck_with_saves, run_ar, He.glo_ok X G (c.t.d.fact 59 (f := .glo "with_saves") rfl), F.kp, F.bindsN fun _ _ _ _ _ _ us hl => match us, hl with | [_, _, _], _ => rfl⟩
theorem ck_put_in : chkSs ["program", "routine", "saves", "found"] (Hd.d_put_in.scope) true true b_put_in Hd.d_put_in.body = true := by decide +kernel
theorem sc_put_in : FnScope ["program", "routine", "saves", "found"] ["program", "routine", "saves"] (Hd.d_put_in.scope) := C8.fnScope_by (by decide +kernel)
theorem fe_put_in (hw : WW.w = w) (c : SaysV Hd.fa Hd.fn tvs w K) (X : K.In h) (G : h.Ns mainGlobals mg) (z : LamZ K mg base Hd.lam) : FnE P w K mg base 12 "put_in" f_put_in := by
  obtain ⟨fd, F⟩ := c.t.d.def_ 32 (d := Hd.d_put_in) rfl
  exact ⟨_, fd, ["program", "routine", "saves"], def_ok (k := 10) (N := ["program", "routine", "saves", "found"]) F sc_put_in (gok hw (tb_ok hw c X G) ⟨(fe_need_both hw c X G z).mono (by decide), (fe_need_saves hw c X G z).mono (by decide), (fe_with_saves hw c X G z).mono (by decide), trivial⟩ trivial trivial) ck_put_in, run_ar, He.glo_ok X G (c.t.d.fact 60 (f := .glo "put_in") rfl), F.kp, F.bindsN fun _ _ _ _ _ _ us hl => match us, hl with | [_, _, _], _ => rfl⟩
theorem ck_law : chkSs ["_law_script", "_law_h", "_law_turn", "_law_program_here", "_law_number_here", "_law_saves_here", "_law_due", "_law_handed", "_law_rows", "_law_plain", "_law_row", "_law_far", "_law_out", "_law_odd_here", "_law_k", "_law_bad", "_law_two", "_law_worse"] (Hd.d_law.scope) true true b_law Hd.d_law.body = true := by decide +kernel
theorem sc_law : FnScope ["_law_script", "_law_h", "_law_turn", "_law_program_here", "_law_number_here", "_law_saves_here", "_law_due", "_law_handed", "_law_rows", "_law_plain", "_law_row", "_law_far", "_law_out", "_law_odd_here", "_law_k", "_law_bad", "_law_two", "_law_worse"] ["_law_script"] (Hd.d_law.scope) := C8.fnScope_by (by decide +kernel)
theorem fe_law (hw : WW.w = w) (c : SaysV Hd.fa Hd.fn tvs w K) (X : K.In h) (G : h.Ns mainGlobals mg) (z : LamZ K mg base Hd.lam) : FnE P w K mg base 20 "law" f_law := by
  obtain ⟨fd, F⟩ := c.t.d.def_ 33 (d := Hd.d_law) rfl
  exact ⟨_, fd, ["_law_script"], def_okL (k := 18) (N := ["_law_script", "_law_h", "_law_turn", "_law_program_here", "_law_number_here", "_law_saves_here", "_law_due", "_law_handed", "_law_rows", "_law_plain", "_law_row", "_law_far", "_law_out", "_law_odd_here", "_law_k", "_law_bad", "_law_two", "_law_worse"]) F sc_law (gok hw (tb_ok hw c X G) ⟨(fe__law_alike hw c X G z).mono (by decide), (fe__law_any hw c X G z).mono (by decide), (fe__law_mix hw c X G z).mono (by decide), (fe__law_next hw c X G z).mono (by decide), (fe__law_put_in hw c X G z).mono (by decide), (fe__law_saves hw c X G z).mono (by decide), (fe_put_in hw c X G z).mono (by decide), trivial⟩ trivial trivial) ck_law (fun _ => ⟨⟨16, rfl, (gok hw (tb_ok hw c X G) ⟨(fe__law_alike hw c X G z).mono (by decide), (fe__law_any hw c X G z).mono (by decide), (fe__law_mix hw c X G z).mono (by decide), (fe__law_next hw c X G z).mono (by decide), (fe__law_put_in hw c X G z).mono (by decide), (fe__law_saves hw c X G z).mono (by decide), (fe_put_in hw c X G z).mono (by decide), trivial⟩ trivial trivial)⟩, kd_ok hw c X G z, z.tab (List.mem_of_getElem? (i := 0) rfl) F⟩), run_ar, He.glo_ok X G (c.t.d.fact 61 (f := .glo "law") rfl), F.kp, F.bindsN fun _ _ _ _ _ _ us hl => match us, hl with | [_], _ => rfl⟩
end
end Mi

set_option Elab.async false
set_option linter.all false
set_option maxRecDepth 100000
set_option maxHeartbeats 0
namespace Mi
open PySem PySem.Spec PyProof.Rows L2
theorem law_at_end {w : World} {K : PySem.W.Frag} {h : Heap} {mg : Str → Option Value} {f : Addr} (c : SaysV Hd.fa Hd.fn tvs w K) (X : K.In h) (G : h.Ns mainGlobals mg) (x : extraB K Hd.lam = true) (t : ∀ p ∈ csOf K Hd.lam, h.get? p.2 = some { cls := .none, data := .fields #[] }) (hfa : mg ("law" : Str) = some (.ref f)) :
    LamX.LawAtS PySem.Challenge.rw_callpact_k11_saves_put_in w K (L2.CX Hd.R.prog w) 20 63 "_law_script" mg f h := by
  letI : WW := ⟨w, tsOf K Hd.lam, none⟩
  have hw : WW.w = w := rfl
  have e := hfa.symm.trans (He.glo_ok X G (c.t.d.fact 61 (f := .glo "law") rfl))
  cases e
  obtain ⟨fd, F⟩ := c.t.d.def_ 33 (d := Hd.d_law) rfl
  have xp := (extra_parts x).2.2.1
  refine ⟨fd, csOf K Hd.lam, spOf K 1 f_law, t, (fun p hp => (xp p hp).2.1), (fun p hp => PySem.W.codeHd_of_K X (xp p hp).1), fun s v => FunD.bindsA (ps := ["_law_script"]) F (fun _ _ _ _ _ _ us hl => match us, hl with | [_], _ => rfl) s [v] rfl, fun H a ns hl hb hT hS => ?_, fun base _ _ tb => ?_⟩
  · obtain ⟨m', hm⟩ := law_true ns hl hb
    obtain ⟨F0, mr, r0⟩ := law_start rfl hT hS
    refine ⟨rfl, [], F0, [.inp ns], [], mr, .cons r0 .nil, ?_⟩
    rw [hm]
    intro φ' F' H' v _ _ r
    cases r
    rfl
  · have z : LamZ K mg base Hd.lam := ⟨x, rfl, tb⟩
    exact def_okL (k := 18) (N := ["_law_script", "_law_h", "_law_turn", "_law_program_here", "_law_number_here", "_law_saves_here", "_law_due", "_law_handed", "_law_rows", "_law_plain", "_law_row", "_law_far", "_law_out", "_law_odd_here", "_law_k", "_law_bad", "_law_two", "_law_worse"]) F sc_law (gok hw (tb_ok hw c X G) ⟨(fe__law_alike hw c X G z).mono (by decide), (fe__law_any hw c X G z).mono (by decide), (fe__law_mix hw c X G z).mono (by decide), (fe__law_next hw c X G z).mono (by decide), (fe__law_put_in hw c X G z).mono (by decide), (fe__law_saves hw c X G z).mono (by decide), (fe_put_in hw c X G z).mono (by decide), trivial⟩ trivial trivial) ck_law (fun _ => ⟨⟨16, rfl, (gok hw (tb_ok hw c X G) ⟨(fe__law_alike hw c X G z).mono (by decide), (fe__law_any hw c X G z).mono (by decide), (fe__law_mix hw c X G z).mono (by decide), (fe__law_next hw c X G z).mono (by decide), (fe__law_put_in hw c X G z).mono (by decide), (fe__law_saves hw c X G z).mono (by decide), (fe_put_in hw c X G z).mono (by decide), trivial⟩ trivial trivial)⟩, kd_ok hw c X G z, z.tab (List.mem_of_getElem? (i := 0) rfl) F⟩)
end Mi
open PySem PySem.W PySem.Calls PyProof.Rows
theorem K11_holds : PySem.Challenge.rw_callpact_k11_saves_put_in.Holds := by
  w_on; o_law
  refine HandSHeadRun.head_any (r := Hd.R) (q := view Hd.R.prog [53]) (H := Hd.hk) (ob := Hd.ob) (M := 9000) (loose := Hd.ls) (d := HandSHeadRun.topDef Hd.R.prog 53) (kwd := []) Hd.ob_eq
    (by kernel_rfl) (fun s => by kernel_rfl) Hd.run (by kernel_rfl) (by kernel_rfl) (by kernel_rfl) (by rfl) (by first | assumption | decide +kernel) (by decide +kernel) ⟨rfl, rfl, rfl, rfl, rfl, by decide +kernel⟩ ?hw ?hc
  case hw => w_witness2
  case hc =>
    refine LamX.walk_ofTsE (l := PySem.Challenge.rw_callpact_k11_saves_put_in) (n := 63) (k := 20) (x := "_law_script") (CX := fun w => L2.CX Hd.R.prog w) rfl (by decide) (by kernel_rfl) ⟨rfl, by decide, by decide⟩ ?F fun _ _ _ _ _ ⟨_, _, _, _, _, _, _, _, _, _, _, _, z⟩ => z
    intro w mg fa h Y G hmg0
    obtain ⟨K, KX, c, x, t⟩ := Y
    have e : (HandSHeadRun.topDef Hd.R.prog 53).name = ("law" : PySem.Str) := by kernel_rfl
    rw [e] at hmg0
    exact ⟨K, KX, Mi.law_at_end c KX G x t hmg0⟩


theorem PySem.Challenge.cw_callpact_k11_saves_put_in_holds : PySem.Challenge.rw_callpact_k11_saves_put_in.Holds :=
  K11_holds
