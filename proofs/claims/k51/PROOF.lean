import PyProof.Rows.All
import Wide.All
import OpenK.AllK
import Wide.FinOn
import HandS.ForMost
import HandS.Wide
import HandS.WordsExc
import HandS.Deep
import HandS.SetFor
import HandS.SortInts
import HandS.SortRule
import HandS.IsInst
import HandS.Conv
import HandS.CallSlots
import KE.GoesMore
import KE.GoesZip
import HandS.TryOnly
import HandS.Head0
import HandS.Head1
import HandS.Head2
import HandS.HeadEnd
import HandS.HeadHook1
import HandS.HeadHook2
import KE.KStateDown
import Lean
import PySem.Challenge.RW_neverwait_k51_stands_of_a_log
set_option Elab.async false
set_option linter.all false
set_option maxRecDepth 100000
set_option maxHeartbeats 0
/-! Mini, part 1: a small language of its own over value trees, and its run. -/
namespace Mini
open PySem (Expr Stmt Operator CmpOp UnaryOp BoolOp Const Pos Scope NameKind)

/-! ### values -/
inductive D where
  | non | bl (b : Bool) | int (i : Int) | str (s : PySem.Str)
  | tup (xs : List D) | lst (xs : List D) | scr (ns : List Int)
  | dct (kvs : List (D × D)) | obj (c : Nat) (fs : List D) | exn (c : Nat)
abbrev Sl := List (Option D)
def scal : D → Bool
  | .non => true | .bl _ => true | .int _ => true | .str _ => true | _ => false
def get : Sl → Nat → Option D
  | [], _ => none
  | x :: _, 0 => x
  | _ :: xs, n + 1 => get xs n
def put : Sl → Nat → Option D → Sl
  | [], _, _ => []
  | _ :: xs, 0, y => y :: xs
  | x :: xs, n + 1, y => x :: put xs n y
inductive Out (α : Type) where
  | ok (a : α) (st : Sl) | exc (c : Nat) (st : Sl) | bad
/-- a call: what it hands back, and what its own parameters are behind it -/
inductive CO where
  | ok (d : D) (os : Sl) | exc (c : Nat) (os : Sl) | bad
inductive SO where
  | nx (st : Sl) | rt (d : D) (st : Sl) | ex (c : Nat) (st : Sl) | bad

/-! ### what a slot may hold -/
/-- fz: shared for good, never changed; lst c: a list of its own, its items c -/
inductive O where
  | fz | lst (c : O) | tup (c : O)
  deriving DecidableEq
/-- of an expression: a scalar; a value (fz, or a tree of its own); what stands in slot i, seen; slot i itself (to be handed to a def that changes it) -/
inductive Ty where
  | sc | v (o : O) | pk (i : Nat) (o : O) | rf (i : Nat)
  deriving DecidableEq

/-! ### the language -/
inductive Kd where
  | l | t | s
  deriving DecidableEq
inductive Op where
  | neg | not_ | isN | notN
  | addI | addS | cat | catT | sub | mulI | rep | fdiv | mod | pow
  | eq | ne | lt | le | gt | ge | in_ | ni
  | ix | sl (k : Kd) (lo hi : Bool)
  | mkT (c : O) | mkL (c : O)
  | len | abs | max2 | min2 | tuple | list | sorted | all | int | isL | rngL
  deriving DecidableEq
/-- a method that changes nothing -/
inductive Bm where
  | cnt
  deriving DecidableEq
mutual
inductive E where
  | cst (d : D)
  | glb (x : PySem.Str) (d : D)
  | var (i : Nat)
  | sv (i : Nat)
  | mv (i : Nat)
  | rf (i : Nat)
  | frz (a : E)
  | op (o : Op) (as : Es)
  | and_ (a b : E)
  | or_ (a b : E)
  | ite (c a b : E)
  | ch (o1 o2 : Op) (a b c : E)
  | comp (k : O) (tg : List Nat) (un : Bool) (s : Src) (c : Option' ) (e : E)
  | call (f : Nat) (as : Es)
  | pop (i : Nat) (a : E)
  | bm (m : Bm) (a : E) (as : Es)
inductive Option' where
  | none | some (a : E)
inductive Es where
  | nil | cons (a : E) (as : Es)
inductive Src where
  | seq (a : E) | rng1 (a : E) | rng2 (a b : E) | zip (as : Es)
end
def Es.len : Es → Nat
  | .nil => 0
  | .cons _ as => as.len + 1
/-- a method that changes what stands in a slot -/
inductive Mop where
  | append | extend | clear
  deriving DecidableEq
mutual
inductive S where
  | set (i : Nat) (e : E)
  | unp (l : Bool) (is : List Nat) (e : E)
  | sidx (i : Nat) (k e : E)
  | smt (m : Mop) (i : Nat) (as : Es)
  | ex (e : E)
  | ret (e : E)
  | ite (c : E) (a b : Ss)
  | for_ (tg : List Nat) (un : Bool) (s : Src) (b : Ss)
  | while_ (n : Nat) (c : E) (b : Ss)
  | pass
inductive Ss where
  | nil | cons (a : S) (as : Ss)
end

/-! ### operations -/
mutual
def D.py : D → Option PySem.PyData
  | .non => some .none
  | .bl b => some (.bool b)
  | .int i => some (.int i)
  | .str s => some (.str s)
  | .tup ds => (pyL ds).map .tuple
  | .lst ds => (pyL ds).map .list
  | .scr ns => some (.list (ns.map .int))
  | _ => none
def pyL : List D → Option (List PySem.PyData)
  | [] => some []
  | d :: ds => match d.py, pyL ds with
    | some p, some ps => some (p :: ps)
    | _, _ => none
end
def eqD (a b : D) : Option Bool := match a.py, b.py with
  | some p, some q => if PySem.SeqAt.shaped p && PySem.SeqAt.shaped q then some (PySem.PyData.eqv p q) else none
  | _, _ => none
def lim : Nat := 1000000
def inD (x y : D) : Option Bool := match x.py, y with
  | some p, .lst ds => (match pyL ds with
    | some qs => if PySem.SeqAt.shaped p && PySem.SeqAt.shaped (.list qs) then some (qs.any fun z => PySem.PyData.eqv z p) else none
    | none => none)
  | some p, .tup ds => (match pyL ds with
    | some qs => if scal x && ds.all scal then some (qs.any fun z => PySem.PyData.eqv z p) else none
    | none => none)
  | _, _ => none
def cutD (xs : List D) (lo hi : Option Int) : List D := (xs.drop (HT.sIx xs.length 0 lo)).take (HT.sIx xs.length xs.length hi - HT.sIx xs.length 0 lo)
def atD (xs : List D) (i : Int) : Option D := L2.atI xs i
def intsD : List D → Option (List Int)
  | [] => some []
  | .int i :: ds => (intsD ds).map (i :: ·)
  | _ => none
def boolsD : List D → Option (List Bool)
  | [] => some []
  | .bl i :: ds => (boolsD ds).map (i :: ·)
  | _ => none
def pairsD : List D → Option (List (Int × Int))
  | [] => some []
  | .tup [.int a, .int b] :: ds => (pairsD ds).map ((a, b) :: ·)
  | _ => none
def prD (p : Int × Int) : D := .tup [.int p.1, .int p.2]
def ins {α : Type} (le : α → α → Bool) (x : α) : List α → List α
  | [] => [x]
  | y :: ys => if le x y then x :: y :: ys else y :: ins le x ys
def isort {α : Type} (le : α → α → Bool) (xs : List α) : List α := xs.foldr (ins le) []
def leI (a b : Int) : Bool := decide (a ≤ b)
def leP (a b : Int × Int) : Bool := decide (a.1 < b.1) || (decide (a.1 = b.1) && decide (a.2 ≤ b.2))
def sortD (ds : List D) : Option (List D) := match intsD ds with
  | some ns => some ((isort leI ns).map .int)
  | none => (match pairsD ds with
    | some ps => some ((isort leP ps).map prD)
    | none => none)
def semIx : D → D → Option D
  | .lst xs, .int i => atD xs i
  | .tup xs, .int i => atD xs i
  | .scr ns, .int i => (L2.atI ns i).map .int
  | _, _ => none
/-- the bounds of a slice -/
def partD : Bool → Bool → List D → Option (Option Int × Option Int)
  | false, false, [] => some (none, none)
  | true, false, [.int a] => some (some a, none)
  | false, true, [.int b] => some (none, some b)
  | _, _, _ => none
def semSl : D → Option (Option Int × Option Int) → Option D
  | .lst xs, some (lo, hi) => some (.lst (cutD xs lo hi))
  | _, _ => none
def isNon : D → Bool
  | .non => true | _ => false
def sem : Op → List D → Option D
  | .neg, [.int i] => some (.int (-i))
  | .not_, [.bl b] => some (.bl (!b))
  | .isN, [d] => some (.bl (isNon d))
  | .notN, [d] => some (.bl (!isNon d))
  | .addI, [.int i, .int j] => some (.int (i + j))
  | .addS, [.str i, .str j] => if i.length + j.length ≤ lim then some (.str (i ++ j)) else none
  | .cat, [.lst xs, .lst ys] => if xs.length + ys.length ≤ lim then some (.lst (xs ++ ys)) else none
  | .catT, [.tup xs, .tup ys] => if xs ≠ [] ∧ xs.length + ys.length ≤ lim then some (.tup (xs ++ ys)) else none
  | .sub, [.int i, .int j] => some (.int (i - j))
  | .mulI, [.int i, .int j] => if (-(2 ^ 64) < i ∧ i < 2 ^ 64) ∨ (-(2 ^ 64) < j ∧ j < 2 ^ 64) then some (.int (i * j)) else none
  | .rep, [.lst xs, .int k] => if -(2 ^ 63) ≤ k ∧ k < 2 ^ 63 ∧ xs.length * k.toNat ≤ lim then some (.lst (List.replicate k.toNat xs).flatten) else none
  | .fdiv, [.int i, .int j] => if 0 < j ∧ j < 2 ^ 4000 then some (.int (i / j)) else none
  | .mod, [.int i, .int j] => if 0 < j then some (.int (i % j)) else none
  | .pow, [.int i, .int j] => if 0 ≤ j ∧ j ≤ 1000000 ∧ i.natAbs < 2 ^ 64 then some (.int (i ^ j.toNat)) else none
  | .eq, [a, b] => (eqD a b).map .bl
  | .ne, [a, b] => (eqD a b).map fun x => .bl (!x)
  | .lt, [.int i, .int j] => some (.bl (decide (i < j)))
  | .le, [.int i, .int j] => some (.bl (decide (i ≤ j)))
  | .gt, [.int i, .int j] => some (.bl (decide (j < i)))
  | .ge, [.int i, .int j] => some (.bl (decide (j ≤ i)))
  | .in_, [a, b] => (inD a b).map .bl
  | .ni, [a, b] => (inD a b).map fun x => .bl (!x)
  | .ix, [a, b] => semIx a b
  | .sl .l lo hi, a :: ds => semSl a (partD lo hi ds)
  | .mkT _, ds => if ds.length ≤ lim then some (.tup ds) else none
  | .mkL _, ds => if ds.length ≤ lim then some (.lst ds) else none
  | .len, [.lst xs] => some (.int xs.length)
  | .len, [.tup xs] => some (.int xs.length)
  | .len, [.scr xs] => some (.int xs.length)
  | .len, [.str z] => if z.length ≤ lim then some (.int z.length) else none
  | .abs, [.int i] => some (.int (if i < 0 then -i else i))
  | .max2, [.int i, .int j] => some (.int (if j > i then j else i))
  | .min2, [.int i, .int j] => some (.int (if j < i then j else i))
  | .tuple, [.lst xs] => some (.tup xs)
  | .tuple, [.tup xs] => some (.tup xs)
  | .list, [.lst xs] => some (.lst xs)
  | .list, [.tup xs] => some (.lst xs)
  | .sorted, [.lst xs] => (sortD xs).map .lst
  | .all, [.lst xs] => (boolsD xs).map fun bs => .bl (bs.all id)
  | .int, [.int i] => some (.int i)
  | .int, [.bl b] => some (.int (if b then 1 else 0))
  | .isL, [.lst _] => some (.bl true)
  | .rngL, [.int n] => if -(2 ^ 62) ≤ n ∧ n ≤ lim then some (.lst ((List.range n.toNat).map fun (k : Nat) => D.int (k : Int))) else none
  | _, _ => none
def recM : Bm → D → Bool
  | .cnt, .lst _ => true
  | _, _ => false
def semM : Bm → D → List D → Option D
  | .cnt, .lst xs, [y] => (match pyL xs, y.py with
    | some ds, some d => if PySem.SeqAt.shaped (.list ds) && PySem.SeqAt.shaped d then some (.int (ds.countP fun z => PySem.PyData.eqv z d : Nat)) else none
    | _, _ => none)
  | _, _, _ => none
def ocmp : Op → Option (Int → Int → Bool)
  | .lt => some fun i j => decide (i < j)
  | .le => some fun i j => decide (i ≤ j)
  | .gt => some fun i j => decide (j < i)
  | .ge => some fun i j => decide (j ≤ i)
  | _ => none

/-! ### the run -/
def Out.map {α β : Type} (f : α → β) : Out α → Out β
  | .ok a st => .ok (f a) st
  | .exc c st => .exc c st
  | .bad => .bad
def Out.bind {α β : Type} (x : Out α) (f : α → Sl → Out β) : Out β := match x with
  | .ok a st => f a st
  | .exc c st => .exc c st
  | .bad => .bad
/-- the slots of a pattern are filled -/
def bindL : List Nat → List D → Sl → Option Sl
  | [], [], st => some st
  | i :: is, d :: ds, st => bindL is ds (put st i (some d))
  | _, _, _ => none
def bindT (tg : List Nat) (un : Bool) (d : D) (st : Sl) : Option Sl := match un with
  | false => (match tg with | [i] => some (put st i (some d)) | _ => none)
  | true => (match d with
    | .tup ds => bindL tg ds st
    | _ => none)
def clear : List Nat → Sl → Sl
  | [], st => st
  | i :: is, st => put (clear is st) i none
/-- the slots are as they were -/
def back : List Nat → Sl → Sl → Sl
  | [], _, st => st
  | i :: is, old, st => put (back is old st) i (get old i)
def compLoop (bind : D → Sl → Option Sl) (wipe : Sl → Sl) (c : Sl → Out D) (e : Sl → Out D) : List D → Sl → Out (List D)
  | [], st => .ok [] st
  | d :: ds, st => match bind d st with
    | none => .bad
    | some st1 => match c st1 with
      | .ok (.bl true) st2 => (match e st2 with
        | .ok y st3 => (compLoop bind wipe c e ds (wipe st3)).map fun r => y :: r
        | _ => .bad)
      | .ok (.bl false) st2 => compLoop bind wipe c e ds (wipe st2)
      | _ => .bad
def forLoop (bind : D → Sl → Option Sl) (b : Sl → SO) : List D → Sl → SO
  | [], st => .nx st
  | d :: ds, st => match bind d st with
    | none => .bad
    | some st1 => match b st1 with
      | .nx st2 => forLoop bind b ds st2
      | r => r
def whileLoop (c : Sl → Out D) (b : Sl → SO) : Nat → Sl → SO
  | 0, _ => .bad
  | n + 1, st => match c st with
    | .ok (.bl true) st1 => (match b st1 with
      | .nx st2 => whileLoop c b n st2
      | r => r)
    | .ok (.bl false) st1 => .nx st1
    | .exc k st1 => .ex k st1
    | _ => .bad
def itemsD : D → Option (List D)
  | .lst xs => some xs
  | .tup xs => some xs
  | _ => none
def rngD (lo : Int) (n : Nat) : List D := (List.range n).map fun (k : Nat) => D.int (lo + k)
def zip3D : List D → List D → List D → List D
  | a :: as, b :: bs, c :: cs => .tup [a, b, c] :: zip3D as bs cs
  | _, _, _ => []
def zipsD : List D → Option (List D)
  | [.tup as, .tup bs, .tup cs] => some (zip3D as bs cs)
  | _ => none
def isLst : Option D → Bool
  | some (.lst _) => true
  | _ => false
def ref1 : E → Option Nat
  | .rf i => some i
  | _ => none
def refs : Es → List (Option Nat)
  | .nil => []
  | .cons a as => ref1 a :: refs as
/-- the slots handed on are read at the call -/
def fill : List (Option Nat) → List D → Sl → Option (List D)
  | [], [], _ => some []
  | some i :: rs, _ :: ds, st => match get st i, fill rs ds st with
    | some d, some r => some (d :: r)
    | _, _ => none
  | none :: rs, d :: ds, st => (fill rs ds st).map (d :: ·)
  | _, _, _ => none
def backR : List (Option Nat) → Sl → Sl → Sl
  | some i :: rs, d :: ds, st => backR rs ds (put st i d)
  | none :: rs, _ :: ds, st => backR rs ds st
  | _, _, st => st
section
variable (cl : Nat → List D → CO)
mutual
def evE : E → Sl → Out D
  | .cst d, st => .ok d st
  | .glb _ d, st => .ok d st
  | .var i, st => match get st i with
    | some d => .ok d st
    | none => .bad
  | .sv i, st => match get st i with
    | some d => if scal d then .ok d st else .bad
    | none => .bad
  | .mv i, st => match get st i with
    | some d => .ok d (put st i none)
    | none => .bad
  | .rf i, st => match get st i with
    | some _ => .ok .non st
    | none => .bad
  | .frz a, st => evE a st
  | .op o as, st => (evEs as st).bind fun ds st1 => match sem o ds with
    | some d => .ok d st1
    | none => .bad
  | .and_ a b, st => match evE a st with
    | .ok (.bl true) st1 => (match evE b st1 with
      | .ok (.bl r) st2 => .ok (.bl r) st2
      | .exc k st2 => .exc k st2
      | _ => .bad)
    | .ok (.bl false) st1 => .ok (.bl false) st1
    | .exc k st1 => .exc k st1
    | _ => .bad
  | .or_ a b, st => match evE a st with
    | .ok (.bl false) st1 => (match evE b st1 with
      | .ok (.bl r) st2 => .ok (.bl r) st2
      | .exc k st2 => .exc k st2
      | _ => .bad)
    | .ok (.bl true) st1 => .ok (.bl true) st1
    | .exc k st1 => .exc k st1
    | _ => .bad
  | .ite c a b, st => match evE c st with
    | .ok (.bl true) st1 => evE a st1
    | .ok (.bl false) st1 => evE b st1
    | .exc k st1 => .exc k st1
    | _ => .bad
  | .ch o1 o2 a b c, st => (evE a st).bind fun x st1 => (evE b st1).bind fun y st2 => match x, y, ocmp o1 with
    | .int i, .int j, some f => if f i j then (evE c st2).bind fun z st3 => (match z, ocmp o2 with
        | .int k, some g => .ok (.bl (g j k)) st3
        | _, _ => .bad) else .ok (.bl false) st2
    | _, _, _ => .bad
  | .comp _ tg un s c e, st => (evSrc s st).bind fun ds st1 =>
    match compLoop (bindT tg un) (clear tg) (fun s => evC c s) (fun s => evE e s) ds (clear tg st1) with
    | .ok r st2 => if r.length ≤ lim then .ok (.lst r) (back tg st1 st2) else .bad
    | _ => .bad
  | .call f as, st => (evEs as st).bind fun ds st1 => match fill (refs as) ds st1 with
    | none => .bad
    | some ds1 => match cl f ds1 with
      | .ok d os => .ok d (backR (refs as) os st1)
      | .exc k os => .exc k (backR (refs as) os st1)
      | .bad => .bad
  | .pop i a, st => if isLst (get st i) then (evE a st).bind fun k st1 => match k, get st1 i with
    | .int k, some (.lst xs) => if -(2 ^ 63) ≤ k ∧ k < 2 ^ 63 then (match L2.ixN xs.length k with
      | some j => (match xs[j]? with
        | some y => .ok y (put st1 i (some (.lst (xs.eraseIdx j))))
        | none => .bad)
      | none => .bad) else .bad
    | _, _ => .bad else .bad
  | .bm m a as, st => (evE a st).bind fun d st1 => if recM m d then (evEs as st1).bind fun ds st2 => (match semM m d ds with
      | some r => .ok r st2
      | none => .bad) else .bad
def evC : Option' → Sl → Out D
  | .none, st => .ok (.bl true) st
  | .some a, st => evE a st
def evEs : Es → Sl → Out (List D)
  | .nil, st => .ok [] st
  | .cons a as, st => (evE a st).bind fun d st1 => (evEs as st1).map fun ds => d :: ds
def evSrc : Src → Sl → Out (List D)
  | .seq a, st => (evE a st).bind fun d st1 => match itemsD d with
    | some ds => .ok ds st1
    | none => .bad
  | .rng1 a, st => (evE a st).bind fun d st1 => match d with
    | .int n => if -(2 ^ 62) ≤ n ∧ n < 2 ^ 62 then .ok (rngD 0 n.toNat) st1 else .bad
    | _ => .bad
  | .rng2 a b, st => (evE a st).bind fun d st1 => (evE b st1).bind fun e st2 => match d, e with
    | .int i, .int j => if -(2 ^ 62) ≤ i ∧ i < 2 ^ 62 ∧ -(2 ^ 62) ≤ j ∧ j < 2 ^ 62 then .ok (rngD i (j - i).toNat) st2 else .bad
    | _, _ => .bad
  | .zip as, st => (evEs as st).bind fun ds st1 => match zipsD ds with
    | some l => .ok l st1
    | none => .bad
end
def unpD : Bool → D → Option (List D)
  | false, .tup ds => some ds
  | true, .lst ds => some ds
  | _, _ => none
def mopD : Mop → List D → List D → Option (List D)
  | .append, xs, [d] => if xs.length < lim then some (xs ++ [d]) else none
  | .extend, xs, [.lst ys] => if xs.length + ys.length ≤ lim then some (xs ++ ys) else none
  | .clear, _, [] => some []
  | _, _, _ => none
mutual
def evS : S → Sl → SO
  | .set i e, st => match evE cl e st with
    | .ok d st1 => .nx (put st1 i (some d))
    | .exc k st1 => .ex k st1
    | .bad => .bad
  | .unp l is e, st => match evE cl e st with
    | .ok d st1 => (match unpD l d with
      | some ds => (match bindL is ds st1 with
        | some st2 => .nx st2
        | none => .bad)
      | none => .bad)
    | .exc k st1 => .ex k st1
    | .bad => .bad
  | .sidx i k e, st => match evE cl e st with
    | .ok d st1 => if isLst (get st1 i) then (match evE cl k st1 with
      | .ok (.int k) st2 => (match get st2 i with
        | some (.lst xs) => (match L2.ixN xs.length k with
          | some j => .nx (put st2 i (some (.lst (xs.set j d))))
          | none => .bad)
        | _ => .bad)
      | .exc k st2 => .ex k st2
      | _ => .bad) else .bad
    | .exc k st1 => .ex k st1
    | .bad => .bad
  | .smt m i as, st => if isLst (get st i) then match evEs cl as st with
    | .ok ds st1 => (match get st1 i with
      | some (.lst xs) => (match mopD m xs ds with
        | some ys => .nx (put st1 i (some (.lst ys)))
        | none => .bad)
      | _ => .bad)
    | .exc k st1 => .ex k st1
    | .bad => .bad else .bad
  | .ex e, st => match evE cl e st with
    | .ok _ st1 => .nx st1
    | .exc k st1 => .ex k st1
    | .bad => .bad
  | .ret e, st => match evE cl e st with
    | .ok d st1 => .rt d st1
    | .exc k st1 => .ex k st1
    | .bad => .bad
  | .ite c a b, st => match evE cl c st with
    | .ok (.bl true) st1 => evSs a st1
    | .ok (.bl false) st1 => evSs b st1
    | .exc k st1 => .ex k st1
    | _ => .bad
  | .for_ tg un s b, st => match evSrc cl s st with
    | .ok ds st1 => forLoop (bindT tg un) (fun s => evSs b s) ds st1
    | .exc k st1 => .ex k st1
    | .bad => .bad
  | .while_ n c b, st => whileLoop (fun s => evE cl c s) (fun s => evSs b s) n st
  | .pass, st => .nx st
def evSs : Ss → Sl → SO
  | .nil, st => .nx st
  | .cons a as, st => match evS a st with
    | .nx st1 => evSs as st1
    | r => r
end
end
/-- a def: its name, its slots (the parameters first) and what each may hold, how many parameters, what it hands back -/
structure FD where
  name : PySem.Str
  N : List PySem.Str
  G : List O
  np : Nat
  ret : O
  body : Ss
def own (o : O) : Bool := match o with | .fz => false | _ => true
/-- what the own parameters are at the end -/
def outsOf : List O → Sl → Option Sl
  | [], _ => some []
  | o :: os, x :: st => match outsOf os st with
    | some r => if own o then (match x with | some d => some (some d :: r) | none => none) else some (none :: r)
    | none => none
  | _ :: _, [] => none
def runF (cl : Nat → List D → CO) (fd : FD) (ds : List D) : CO :=
  if ds.length = fd.np then
    match evSs cl fd.body (ds.map some ++ List.replicate (fd.N.length - fd.np) none) with
    | .nx st => (match outsOf (fd.G.take fd.np) st with | some os => .ok .non os | none => .bad)
    | .rt d st => (match outsOf (fd.G.take fd.np) st with | some os => .ok d os | none => .bad)
    | .ex c st => (match outsOf (fd.G.take fd.np) st with | some os => .exc c os | none => .bad)
    | .bad => .bad
  else .bad
def callF (fds : List FD) : Nat → Nat → List D → CO
  | 0, _, _ => .bad
  | n + 1, f, ds => match fds[f]? with
    | some fd => runF (callF fds n) fd ds
    | none => .bad
end Mini

/-! Mini, part 2: how the value trees stand in the heap. -/
namespace Mini
open PySem (Expr Stmt Operator CmpOp UnaryOp BoolOp Const Pos Scope NameKind Addr)
open L2

/-! ### slots -/
theorem get_put_same : ∀ {st : Sl} {i : Nat} {x : Option D}, i < st.length → get (put st i x) i = x
  | [], _, _, h => absurd h (Nat.not_lt_zero _)
  | _ :: _, 0, _, _ => rfl
  | _ :: st, i + 1, x, h => get_put_same (st := st) (Nat.lt_of_succ_lt_succ h)
theorem get_put_ne : ∀ {st : Sl} {i j : Nat} {x : Option D}, j ≠ i → get (put st i x) j = get st j
  | [], _, _, _, _ => rfl
  | _ :: _, 0, 0, _, h => absurd rfl h
  | _ :: _, 0, _ + 1, _, _ => rfl
  | _ :: _, _ + 1, 0, _, _ => rfl
  | _ :: st, i + 1, j + 1, x, h => get_put_ne (st := st) fun e => h (congrArg (· + 1) e)
theorem len_put : ∀ {st : Sl} {i : Nat} {x : Option D}, (put st i x).length = st.length
  | [], _, _ => rfl
  | _ :: _, 0, _ => rfl
  | _ :: st, i + 1, x => congrArg (· + 1) (len_put (st := st))
theorem get_lt : ∀ {st : Sl} {i : Nat} {d : D}, get st i = some d → i < st.length
  | [], _, _, h => nomatch h
  | _ :: _, 0, _, _ => Nat.zero_lt_succ _
  | _ :: st, i + 1, d, h => Nat.succ_lt_succ (get_lt (st := st) h)
theorem get_none : ∀ {st : Sl} {i : Nat}, st.length ≤ i → get st i = none
  | [], _, _ => rfl
  | _ :: _, 0, h => absurd h (Nat.not_succ_le_zero _)
  | _ :: st, i + 1, h => get_none (st := st) (Nat.le_of_succ_le_succ h)

/-! ### trees that are shared for good -/
mutual
def Rep (K : PySem.W.Frag) (R : Hp) : D → V → Prop
  | .non, v => v = .non
  | .bl b, v => v = .bl b
  | .int i, v => v = .int i
  | .str s, v => v = .str s
  | .tup ds, v => ∃ p vs, v = .ref p ∧ R p = some (.tup vs) ∧ RepL K R ds vs
  | .lst ds, v => ∃ p vs, v = .ref p ∧ R p = some (.lst vs) ∧ RepL K R ds vs
  | .scr ns, v => ∃ p, v = .ref p ∧ SqL K R p (ns.map V.int)
  | _, _ => False
def RepL (K : PySem.W.Frag) (R : Hp) : List D → List V → Prop
  | [], vs => vs = []
  | d :: ds, vs => ∃ w ws, vs = w :: ws ∧ Rep K R d w ∧ RepL K R ds ws
end
def Sub (R H : Hp) : Prop := ∀ a u, R a = some u → H a = some u
theorem Sub.refl (R : Hp) : Sub R R := fun _ _ h => h
theorem Sub.trans {A B C : Hp} (h : Sub A B) (k : Sub B C) : Sub A C := fun a u e => k a u (h a u e)
section
variable {K : PySem.W.Frag} {R R' H H' : Hp}
theorem SqL.sub (s : Sub R R') {p : Addr} {xs : List V} (h : SqL K R p xs) : SqL K R' p xs := by
  rcases h with (h | ⟨o, h⟩) | h
  · exact .inl (.inl (s _ _ h))
  · exact .inl (.inr ⟨o, s _ _ h⟩)
  · exact .inr h
mutual
theorem Rep.mono (s : Sub R R') : ∀ (d : D) (v : V), Rep K R d v → Rep K R' d v
  | .non, _, q => q
  | .bl _, _, q => q
  | .int _, _, q => q
  | .str _, _, q => q
  | .tup ds, _, ⟨p, vs, e, r, q⟩ => ⟨p, vs, e, s _ _ r, RepL.mono s ds vs q⟩
  | .lst ds, _, ⟨p, vs, e, r, q⟩ => ⟨p, vs, e, s _ _ r, RepL.mono s ds vs q⟩
  | .scr ns, _, ⟨p, e, q⟩ => ⟨p, e, SqL.sub s q⟩
  | .dct _, _, q => q
  | .obj _ _, _, q => q
  | .exn _, _, q => q
theorem RepL.mono (s : Sub R R') : ∀ (ds : List D) (vs : List V), RepL K R ds vs → RepL K R' ds vs
  | [], _, q => q
  | d :: ds, _, ⟨w, ws, e, a, b⟩ => ⟨w, ws, e, Rep.mono s d w a, RepL.mono s ds ws b⟩
end
theorem RepL.length : ∀ {ds : List D} {vs : List V}, RepL K R ds vs → vs.length = ds.length
  | [], _, q => by
    rw [show _ = [] from q]
    rfl
  | d :: ds, _, ⟨w, ws, e, a, b⟩ => by rw [e, List.length_cons, List.length_cons, RepL.length b]
theorem RepL.get : ∀ {ds : List D} {vs : List V} {j : Nat} {d : D}, RepL K R ds vs → ds[j]? = some d → ∃ v, vs[j]? = some v ∧ Rep K R d v
  | [], _, _, _, _, h => by simp at h
  | d :: ds, _, 0, x, ⟨w, ws, e, a, b⟩, h => by
    simp at h
    subst h e
    exact ⟨w, rfl, a⟩
  | d :: ds, _, j + 1, x, ⟨w, ws, e, a, b⟩, h => by
    subst e
    have h' : ds[j]? = some x := by simpa using h
    obtain ⟨v, h1, h2⟩ := RepL.get b h'
    exact ⟨v, by simpa using h1, h2⟩
theorem RepL.append : ∀ {ds es : List D} {vs ws : List V}, RepL K R ds vs → RepL K R es ws → RepL K R (ds ++ es) (vs ++ ws)
  | [], _, _, _, q, h => by
    rw [show _ = [] from q]
    exact h
  | d :: ds, es, _, ws, ⟨w, us, e, a, b⟩, h => by
    subst e
    exact ⟨w, us ++ ws, rfl, a, RepL.append b h⟩
theorem RepL.drop : ∀ {ds : List D} {vs : List V} (n : Nat), RepL K R ds vs → RepL K R (ds.drop n) (vs.drop n)
  | ds, vs, 0, q => by simpa using q
  | [], _, n + 1, q => by
    rw [show _ = [] from q]
    rfl
  | d :: ds, _, n + 1, ⟨w, us, e, a, b⟩ => by
    subst e
    exact RepL.drop n b
theorem RepL.take : ∀ {ds : List D} {vs : List V} (n : Nat), RepL K R ds vs → RepL K R (ds.take n) (vs.take n)
  | ds, vs, 0, q => by rw [List.take_zero, List.take_zero]; rfl
  | [], _, n + 1, q => by
    rw [show _ = [] from q]
    rfl
  | d :: ds, _, n + 1, ⟨w, us, e, a, b⟩ => by
    subst e
    exact ⟨w, us.take n, rfl, a, RepL.take n b⟩
theorem RepL.replicate {ds : List D} {vs : List V} (q : RepL K R ds vs) : ∀ n : Nat, RepL K R (List.replicate n ds).flatten (List.replicate n vs).flatten
  | 0 => rfl
  | n + 1 => by
    rw [List.replicate_succ, List.replicate_succ, List.flatten_cons, List.flatten_cons]
    exact RepL.append q (RepL.replicate q n)
theorem RepL.scal {ds : List D} {vs : List V} (h : RepL K R ds vs) (e : ds.all scal = true) : RepL K R' ds vs := by
  induction ds generalizing vs with
  | nil => exact h
  | cons d ds ih =>
    obtain ⟨w, ws, rfl, a, b⟩ := h
    rw [List.all_cons, Bool.and_eq_true] at e
    refine ⟨w, ws, rfl, ?_, ih b e.2⟩
    cases d <;> first | exact a | exact absurd e.1 Bool.false_ne_true
theorem Rep.scal {d : D} {v : V} (h : Rep K R d v) (e : scal d = true) : Rep K R' d v := by
  cases d <;> first | exact h | exact absurd e Bool.false_ne_true

/-! ### trees of one's own -/
inductive All3 (P : D → V → List Addr → Prop) : List D → List V → List Addr → Prop where
  | nil : All3 P [] [] []
  | cons {d : D} {v : V} {f : List Addr} {ds : List D} {vs : List V} {g : List Addr} : P d v f → All3 P ds vs g → All3 P (d :: ds) (v :: vs) (f ++ g)
def RpO (K : PySem.W.Frag) (R H : Hp) : O → D → V → List Addr → Prop
  | .fz, d, v, f => Rep K R d v ∧ f = []
  | .lst c, d, v, f => (scal d = true ∧ Rep K R d v ∧ f = []) ∨ ∃ ds p vs g, d = .lst ds ∧ v = .ref p ∧ H p = some (.lst vs) ∧ All3 (RpO K R H c) ds vs g ∧ f = p :: g
  | .tup c, d, v, f => (scal d = true ∧ Rep K R d v ∧ f = []) ∨ ∃ ds p vs g, d = .tup ds ∧ v = .ref p ∧ H p = some (.tup vs) ∧ All3 (RpO K R H c) ds vs g ∧ f = p :: g
theorem All3.imp {P P' : D → V → List Addr → Prop} {ds : List D} {vs : List V} {g : List Addr} (h : All3 P ds vs g) (k : ∀ d v f, (∀ a ∈ f, a ∈ g) → P d v f → P' d v f) : All3 P' ds vs g := by
  induction h with
  | nil => exact .nil
  | cons a b ih =>
    refine .cons (k _ _ _ (fun x hx => List.mem_append_left _ hx) a) (ih fun d v f hf hp => k d v f (fun x hx => List.mem_append_right _ (hf x hx)) hp)
theorem All3.length {P : D → V → List Addr → Prop} {ds : List D} {vs : List V} {g : List Addr} (h : All3 P ds vs g) : vs.length = ds.length := by
  induction h with
  | nil => rfl
  | cons _ _ ih => rw [List.length_cons, List.length_cons, ih]
theorem All3.append {P : D → V → List Addr → Prop} {ds ds' : List D} {vs vs' : List V} {g g' : List Addr} (h : All3 P ds vs g) (k : All3 P ds' vs' g') : All3 P (ds ++ ds') (vs ++ vs') (g ++ g') := by
  induction h with
  | nil => exact k
  | cons a b ih =>
    rw [List.append_assoc]
    exact .cons a ih
theorem All3.one {P : D → V → List Addr → Prop} {d : D} {v : V} {f : List Addr} (h : P d v f) : All3 P [d] [v] f := by
  have := All3.cons h (.nil : All3 P [] [] [])
  rw [List.append_nil] at this
  exact this
theorem RpO.stay (s : Sub R R') : ∀ (o : O) (d : D) (v : V) (f : List Addr), RpO K R H o d v f → (∀ a ∈ f, ∀ u, H a = some u → H' a = some u) → RpO K R' H' o d v f
  | .fz, d, v, f, ⟨q, e⟩, _ => ⟨Rep.mono s d v q, e⟩
  | .lst c, d, v, f, .inl ⟨a, q, e⟩, _ => .inl ⟨a, Rep.mono s d v q, e⟩
  | .lst c, _, _, _, .inr ⟨ds, p, vs, g, rfl, rfl, hp, q, rfl⟩, k =>
    .inr ⟨ds, p, vs, g, rfl, rfl, k p List.mem_cons_self _ hp, q.imp fun d v f hf h => RpO.stay s c d v f h fun a ha => k a (List.mem_cons_of_mem _ (hf a ha)), rfl⟩
  | .tup c, d, v, f, .inl ⟨a, q, e⟩, _ => .inl ⟨a, Rep.mono s d v q, e⟩
  | .tup c, _, _, _, .inr ⟨ds, p, vs, g, rfl, rfl, hp, q, rfl⟩, k =>
    .inr ⟨ds, p, vs, g, rfl, rfl, k p List.mem_cons_self _ hp, q.imp fun d v f hf h => RpO.stay s c d v f h fun a ha => k a (List.mem_cons_of_mem _ (hf a ha)), rfl⟩
theorem RpO.dom : ∀ (o : O) (d : D) (v : V) (f : List Addr), RpO K R H o d v f → ∀ a ∈ f, ∃ u, H a = some u := by
  intro o
  induction o with
  | fz =>
    rintro d v f ⟨_, rfl⟩ a ha
    cases ha
  | lst c ih =>
    rintro d v f (⟨_, _, rfl⟩ | ⟨ds, p, vs, g, rfl, rfl, hp, q, rfl⟩) a ha
    · cases ha
    · rcases List.mem_cons.mp ha with rfl | ha
      · exact ⟨_, hp⟩
      · clear hp
        induction q with
        | nil => cases ha
        | cons h _ ih2 =>
          rcases List.mem_append.mp ha with ha | ha
          · exact ih _ _ _ h a ha
          · exact ih2 (List.mem_cons_of_mem _ ha) ha
  | tup c ih =>
    rintro d v f (⟨_, _, rfl⟩ | ⟨ds, p, vs, g, rfl, rfl, hp, q, rfl⟩) a ha
    · cases ha
    · rcases List.mem_cons.mp ha with rfl | ha
      · exact ⟨_, hp⟩
      · clear hp
        induction q with
        | nil => cases ha
        | cons h _ ih2 =>
          rcases List.mem_append.mp ha with ha | ha
          · exact ih _ _ _ h a ha
          · exact ih2 (List.mem_cons_of_mem _ ha) ha
theorem All3.repL {P : D → V → List Addr → Prop} {ds : List D} {vs : List V} {g : List Addr} (h : All3 P ds vs g) (k : ∀ d v f, (∀ a ∈ f, a ∈ g) → P d v f → Rep K R d v) : RepL K R ds vs := by
  induction h with
  | nil => exact rfl
  | cons a b ih => exact ⟨_, _, rfl, k _ _ _ (fun x hx => List.mem_append_left _ hx) a, ih fun d v f hf hp => k d v f (fun x hx => List.mem_append_right _ (hf x hx)) hp⟩
/-- a tree of one's own, seen in a heap that holds it: it reads as a shared one -/
theorem RpO.rep (s : Sub R R') : ∀ (o : O) (d : D) (v : V) (f : List Addr), RpO K R H o d v f → (∀ a ∈ f, ∀ u, H a = some u → R' a = some u) → Rep K R' d v
  | .fz, d, v, f, ⟨q, e⟩, _ => Rep.mono s d v q
  | .lst c, d, v, f, .inl ⟨a, q, e⟩, _ => Rep.mono s d v q
  | .lst c, _, _, _, .inr ⟨ds, p, vs, g, rfl, rfl, hp, q, rfl⟩, k =>
    ⟨p, vs, rfl, k p List.mem_cons_self _ hp, q.repL fun d v f hf h => RpO.rep s c d v f h fun a ha => k a (List.mem_cons_of_mem _ (hf a ha))⟩
  | .tup c, d, v, f, .inl ⟨a, q, e⟩, _ => Rep.mono s d v q
  | .tup c, _, _, _, .inr ⟨ds, p, vs, g, rfl, rfl, hp, q, rfl⟩, k =>
    ⟨p, vs, rfl, k p List.mem_cons_self _ hp, q.repL fun d v f hf h => RpO.rep s c d v f h fun a ha => k a (List.mem_cons_of_mem _ (hf a ha))⟩
theorem RepL.all3 : ∀ {ds : List D} {vs : List V}, RepL K R ds vs → All3 (RpO K R H .fz) ds vs []
  | [], _, q => by
    rw [show _ = [] from q]
    exact .nil
  | d :: ds, _, ⟨w, us, e, a, b⟩ => by
    subst e
    exact .cons (f := []) ⟨a, rfl⟩ (RepL.all3 b)
theorem All3.fz {ds : List D} {vs : List V} {g : List Addr} (h : All3 (RpO K R H .fz) ds vs g) : RepL K R ds vs ∧ g = [] := by
  induction h with
  | nil => exact ⟨rfl, rfl⟩
  | cons a b ih =>
    obtain ⟨a1, rfl⟩ := a
    exact ⟨⟨_, _, rfl, a1, ih.1⟩, ih.2⟩
theorem RpO.scal {o : O} {d : D} {v : V} (h : Rep K R d v) (e : Mini.scal d = true) : RpO K R H o d v [] := by
  cases o with
  | fz => exact ⟨h, rfl⟩
  | lst c => exact .inl ⟨e, h, rfl⟩
  | tup c => exact .inl ⟨e, h, rfl⟩
theorem RpO.scal_fp {o : O} {d : D} {v : V} {f : List Addr} (h : RpO K R H o d v f) (e : Mini.scal d = true) : Rep K R d v ∧ f = [] := by
  cases o with
  | fz => exact h
  | lst c =>
    rcases h with ⟨_, q, e⟩ | ⟨ds, p, vs, g, rfl, _⟩
    · exact ⟨q, e⟩
    · exact absurd e Bool.false_ne_true
  | tup c =>
    rcases h with ⟨_, q, e⟩ | ⟨ds, p, vs, g, rfl, _⟩
    · exact ⟨q, e⟩
    · exact absurd e Bool.false_ne_true
end

/-! ### the state -/
structure Rel (K : PySem.W.Frag) (G : Nat → O) (σ : L2.St) (st : Sl) (R H : Hp) (F : Nat → List Addr) : Prop where
  len : st.length = σ.length
  sl : ∀ i d, get st i = some d → ∃ v, σ[i]? = some (some v) ∧ RpO K R H (G i) d v (F i)
  em : ∀ i, get st i = none → F i = []
  nd : ∀ i, (F i).Nodup
  dj : ∀ i j a, a ∈ F i → a ∈ F j → i = j
  sub : Sub R H
  off : ∀ i a, a ∈ F i → R a = none
/-- what a step may change: M the slots whose trees it may change; f: the tree that it leaves -/
structure Stp (M : List Nat) (R : Hp) (F : Nat → List Addr) (H R' : Hp) (F' : Nat → List Addr) (H' : Hp) (f : List Addr) : Prop where
  un : ∀ i, i ∉ M → F' i = F i
  org : ∀ a, (a ∈ f ∨ ∃ i, i ∈ M ∧ a ∈ F' i) → (∃ i, i ∈ M ∧ a ∈ F i) ∨ H a = none
  fr : ∀ a u, H a = some u → (∀ i, i ∈ M → a ∉ F i) → H' a = some u
  kp : ∀ a, H' a = none → H a = none
  ex : Sub R R'
  ro : ∀ a u, R' a = some u → R a = some u ∨ (∃ i, i ∈ M ∧ a ∈ F i) ∨ H a = none
  dj : ∀ a, a ∈ f → ∀ i, a ∉ F' i
  nd : f.Nodup
  off : ∀ a, a ∈ f → R' a = none
section
variable {K : PySem.W.Frag} {G : Nat → O} {σ : L2.St} {st st' : Sl} {R H R' H' R1 H1 R2 H2 : Hp} {F F' F1 F2 : Nat → List Addr} {M M1 M2 : List Nat} {f f1 f2 : List Addr}
theorem Rel.dom (r : Rel K G σ st R H F) {i : Nat} {a : Addr} (h : a ∈ F i) : ∃ u, H a = some u := by
  cases e : get st i with
  | none =>
    rw [r.em i e] at h
    cases h
  | some d =>
    obtain ⟨v, _, q⟩ := r.sl i d e
    exact RpO.dom _ _ _ _ q a h
theorem Stp.refl : Stp M R F H R F H [] where
  un := fun _ _ => rfl
  org := fun a h => by
    rcases h with h | ⟨i, hi, h⟩
    · cases h
    · exact .inl ⟨i, hi, h⟩
  fr := fun _ _ h _ => h
  kp := fun _ h => h
  ex := Sub.refl R
  ro := fun _ _ h => .inl h
  dj := fun _ h => nomatch h
  nd := List.nodup_nil
  off := fun _ h => nomatch h
theorem Stp.org0 (s : Stp M R F H R' F' H' f) {a : Addr} {i : Nat} (h : a ∈ F' i) : (∃ j, a ∈ F j ∧ (j ∈ M ∨ j = i)) ∨ H a = none := by
  by_cases hi : i ∈ M
  · rcases s.org a (.inr ⟨i, hi, h⟩) with ⟨j, hj, q⟩ | q
    · exact .inl ⟨j, q, .inl hj⟩
    · exact .inr q
  · rw [s.un i hi] at h
    exact .inl ⟨i, h, .inr rfl⟩
theorem Stp.trans (s : Stp M1 R F H R1 F1 H1 f1) (t : Stp M2 R1 F1 H1 R2 F2 H2 f2) : Stp (M1 ++ M2) R F H R2 F2 H2 f2 where
  un := fun i hi => by
    rw [List.mem_append, not_or] at hi
    rw [t.un i hi.2, s.un i hi.1]
  org := fun a h => by
    have key : (∃ j, j ∈ M2 ∧ a ∈ F1 j) ∨ H1 a = none → (∃ i, i ∈ M1 ++ M2 ∧ a ∈ F i) ∨ H a = none := by
      rintro (⟨j, hj, q⟩ | q)
      · by_cases h1 : j ∈ M1
        · rcases s.org a (.inr ⟨j, h1, q⟩) with ⟨k, hk, z⟩ | z
          · exact .inl ⟨k, List.mem_append_left _ hk, z⟩
          · exact .inr z
        · rw [s.un j h1] at q
          exact .inl ⟨j, List.mem_append_right _ hj, q⟩
      · exact .inr (s.kp a q)
    rcases h with h | ⟨i, hi, h⟩
    · exact key (t.org a (.inl h))
    · by_cases h2 : i ∈ M2
      · exact key (t.org a (.inr ⟨i, h2, h⟩))
      · rw [t.un i h2] at h
        have h1 : i ∈ M1 := (List.mem_append.mp hi).resolve_right h2
        rcases s.org a (.inr ⟨i, h1, h⟩) with ⟨k, hk, z⟩ | z
        · exact .inl ⟨k, List.mem_append_left _ hk, z⟩
        · exact .inr z
  fr := fun a u h k => by
    have h1 := s.fr a u h fun i hi => k i (List.mem_append_left _ hi)
    refine t.fr a u h1 fun i hi q => ?_
    by_cases hm : i ∈ M1
    · rcases s.org a (.inr ⟨i, hm, q⟩) with ⟨j, hj, z⟩ | z
      · exact k j (List.mem_append_left _ hj) z
      · rw [z] at h
        cases h
    · rw [s.un i hm] at q
      exact k i (List.mem_append_right _ hi) q
  kp := fun a h => s.kp a (t.kp a h)
  ex := s.ex.trans t.ex
  ro := fun a u h => by
    rcases t.ro a u h with h | ⟨i, hi, q⟩ | q
    · rcases s.ro a u h with h | ⟨i, hi, q⟩ | q
      · exact .inl h
      · exact .inr (.inl ⟨i, List.mem_append_left _ hi, q⟩)
      · exact .inr (.inr q)
    · by_cases hm : i ∈ M1
      · rcases s.org a (.inr ⟨i, hm, q⟩) with ⟨j, hj, z⟩ | z
        · exact .inr (.inl ⟨j, List.mem_append_left _ hj, z⟩)
        · exact .inr (.inr z)
      · rw [s.un i hm] at q
        exact .inr (.inl ⟨i, List.mem_append_right _ hi, q⟩)
    · exact .inr (.inr (s.kp a q))
  dj := t.dj
  nd := t.nd
  off := t.off
/-- a tree that stands beside the slots stays beside them through a step -/
theorem Stp.aside (t : Stp M R F H R' F' H' f) (hd : ∀ a ∈ f1, ∀ i, a ∉ F i) (ho : ∀ a ∈ f1, R a = none) (hk : ∀ a ∈ f1, ∃ u, H a = some u) :
    (∀ a ∈ f1, ∀ i, a ∉ F' i) ∧ (∀ a ∈ f1, R' a = none) ∧ (∀ a ∈ f1, a ∉ f) ∧ (∀ a ∈ f1, ∀ u, H a = some u → H' a = some u) := by
  have no : ∀ a ∈ f1, ¬ ((∃ i, i ∈ M ∧ a ∈ F i) ∨ H a = none) := by
    rintro a ha (⟨i, _, q⟩ | q)
    · exact hd a ha i q
    · obtain ⟨u, e⟩ := hk a ha
      rw [q] at e
      cases e
  refine ⟨fun a ha i q => ?_, fun a ha => ?_, fun a ha q => no a ha (t.org a (.inl q)), fun a ha u e => t.fr a u e fun i _ => hd a ha i⟩
  · by_cases hi : i ∈ M
    · exact no a ha (t.org a (.inr ⟨i, hi, q⟩))
    · rw [t.un i hi] at q
      exact hd a ha i q
  · cases e : R' a with
    | none => rfl
    | some u =>
      rcases t.ro a u e with z | z
      · rw [ho a ha] at z
        cases z
      · exact (no a ha z).elim
theorem Stp.weak (t : Stp M1 R F H R' F' H' f) (h : ∀ i ∈ M1, i ∈ M2) : Stp M2 R F H R' F' H' f where
  un := fun i hi => t.un i fun q => hi (h i q)
  org := fun a q => by
    have back : (∃ i, i ∈ M1 ∧ a ∈ F i) ∨ H a = none → (∃ i, i ∈ M2 ∧ a ∈ F i) ∨ H a = none := by
      rintro (⟨i, hi, z⟩ | z)
      · exact .inl ⟨i, h i hi, z⟩
      · exact .inr z
    rcases q with q | ⟨i, hi, q⟩
    · exact back (t.org a (.inl q))
    · by_cases hm : i ∈ M1
      · exact back (t.org a (.inr ⟨i, hm, q⟩))
      · rw [t.un i hm] at q
        exact .inl ⟨i, hi, q⟩
  fr := fun a u e k => t.fr a u e fun i hi => k i (h i hi)
  kp := t.kp
  ex := t.ex
  ro := fun a u e => by
    rcases t.ro a u e with z | ⟨i, hi, z⟩ | z
    · exact .inl z
    · exact .inr (.inl ⟨i, h i hi, z⟩)
    · exact .inr (.inr z)
  dj := t.dj
  nd := t.nd
  off := t.off
/-- the tree left is dropped -/
theorem Stp.drop (t : Stp M R F H R' F' H' f) : Stp M R F H R' F' H' [] where
  un := t.un
  org := fun a q => t.org a (by
    rcases q with q | q
    · cases q
    · exact .inr q)
  fr := t.fr
  kp := t.kp
  ex := t.ex
  ro := t.ro
  dj := fun _ h => nomatch h
  nd := List.nodup_nil
  off := fun _ h => nomatch h
end

/-! ### what an expression's value is -/
def RpT (K : PySem.W.Frag) (σ : L2.St) (R H : Hp) (F : Nat → List Addr) : Ty → D → V → List Addr → Prop
  | .sc, d, v, f => scal d = true ∧ Rep K R d v ∧ f = []
  | .v o, d, v, f => RpO K R H o d v f
  | .pk i o, d, v, f => f = [] ∧ ∃ g, RpO K R H o d v g ∧ ∀ a ∈ g, a ∈ F i
  | .rf i, _, v, f => f = [] ∧ σ[i]? = some (some v)
section
variable {K : PySem.W.Frag} {G : Nat → O} {σ : L2.St} {st st' : Sl} {R H R' H' R1 H1 R2 H2 : Hp} {F F' F1 F2 : Nat → List Addr} {M M1 M2 : List Nat} {f f1 f2 : List Addr} {ty : Ty} {d : D} {v : V}
theorem RpT.dom (h : RpT K σ R H F ty d v f) : ∀ a ∈ f, ∃ u, H a = some u := by
  cases ty with
  | sc =>
    obtain ⟨_, _, rfl⟩ := h
    intro a ha
    cases ha
  | v o => exact RpO.dom _ _ _ _ h
  | pk i o =>
    obtain ⟨rfl, _⟩ := h
    intro a ha
    cases ha
  | rf i =>
    obtain ⟨rfl, _⟩ := h
    intro a ha
    cases ha
def pkOut (ty : Ty) (M : List Nat) : Bool := match ty with
  | .pk i _ => decide (i ∉ M)
  | _ => true
/-- a value stays what it is through a step -/
theorem RpT.step (r : Rel K G σ st R H F) (h : RpT K σ R H F ty d v f1) (hd : ∀ a ∈ f1, ∀ i, a ∉ F i) (t : Stp M R F H R' F' H' f) (hp : pkOut ty M = true) : RpT K σ R' H' F' ty d v f1 := by
  cases ty with
  | sc =>
    obtain ⟨a, b, e⟩ := h
    exact ⟨a, Rep.mono t.ex _ _ b, e⟩
  | v o => exact RpO.stay t.ex _ _ _ _ h fun a ha u e => t.fr a u e fun i _ => hd a ha i
  | pk i o =>
    obtain ⟨e, g, q, k⟩ := h
    have hi : i ∉ M := of_decide_eq_true hp
    refine ⟨e, g, RpO.stay t.ex _ _ _ _ q fun a ha u e => t.fr a u e fun j hj z => ?_, fun a ha => by rw [t.un i hi]; exact k a ha⟩
    exact hi (r.dj _ _ _ (k a ha) z ▸ hj)
  | rf i => exact h
/-- a value reads as a shared one in the heap as it is -/
theorem RpT.rep (r : Rel K G σ st R H F) (h : RpT K σ R H F ty d v f) (hr : ∀ i, ty ≠ .rf i) : Rep K H d v := by
  cases ty with
  | sc => exact Rep.mono r.sub _ _ h.2.1
  | v o => exact RpO.rep r.sub _ _ _ _ h fun _ _ _ e => e
  | pk i o =>
    obtain ⟨_, g, q, _⟩ := h
    exact RpO.rep r.sub _ _ _ _ q fun _ _ _ e => e
  | rf i => exact absurd rfl (hr i)
theorem RpT.sc_to {o : O} (h : RpT K σ R H F .sc d v f) : RpT K σ R H F (.v o) d v f := by
  obtain ⟨a, b, rfl⟩ := h
  exact RpO.scal b a
end
end Mini

/-! Mini, part 3: the look that matches a Mini text with the syntax tree and types it. -/
namespace Mini
open PySem (Expr Stmt Operator CmpOp UnaryOp BoolOp Const Pos Scope NameKind Addr)
open L2

/-! ### which slots a text may change -/
def refL : List (Option Nat) → List Nat
  | [] => []
  | some i :: r => i :: refL r
  | none :: r => refL r
mutual
def mu : E → List Nat
  | .cst _ => [] | .glb _ _ => [] | .var _ => [] | .sv _ => [] | .rf _ => []
  | .mv i => [i]
  | .frz a => mu a
  | .op _ as => muEs as
  | .and_ a b => mu a ++ mu b
  | .or_ a b => mu a ++ mu b
  | .ite c a b => mu c ++ (mu a ++ mu b)
  | .ch _ _ a b c => mu a ++ (mu b ++ mu c)
  | .comp _ _ _ s c e => muSrc s ++ (muO c ++ mu e)
  | .call _ as => muEs as ++ refL (refs as)
  | .pop i a => mu a ++ [i]
  | .bm _ a as => mu a ++ muEs as
def muO : Option' → List Nat
  | .none => []
  | .some a => mu a
def muEs : Es → List Nat
  | .nil => []
  | .cons a as => mu a ++ muEs as
def muSrc : Src → List Nat
  | .seq a => mu a
  | .rng1 a => mu a
  | .rng2 a b => mu a ++ mu b
  | .zip as => muEs as
end
mutual
def muS : S → List Nat
  | .set i e => mu e ++ [i]
  | .unp _ is e => mu e ++ is
  | .sidx i k e => mu e ++ (mu k ++ [i])
  | .smt _ i as => muEs as ++ [i]
  | .ex e => mu e
  | .ret e => mu e
  | .ite c a b => mu c ++ (muSs a ++ muSs b)
  | .for_ tg _ s b => muSrc s ++ (tg ++ muSs b)
  | .while_ _ c b => mu c ++ muSs b
  | .pass => []
def muSs : Ss → List Nat
  | .nil => []
  | .cons a as => muS a ++ muSs as
end
/-! the slots that are set anew -/
mutual
def asS : S → List Nat
  | .set i _ => [i]
  | .unp _ is _ => is
  | .ite _ a b => asSs a ++ asSs b
  | .for_ tg _ _ b => tg ++ asSs b
  | .while_ _ _ b => asSs b
  | _ => []
def asSs : Ss → List Nat
  | .nil => []
  | .cons a as => asS a ++ asSs as
end

/-! ### the look -/
structure SC where
  N : List PySem.Str
  G : List O
  fds : List FD
  free : List PySem.Str
  cst : List (PySem.Str × D)
  ret : O
def SC.g (C : SC) : Nat → O := fun i => C.G.getD i .fz
def vis (sc : Scope) (x : PySem.Str) : Bool := match sc.names.lookup x with
  | some .local => true | some .cell => true | some .free => true | _ => false
def loc (sc : Scope) (x : PySem.Str) : Bool := match sc.names.lookup x with
  | some .local => true | some .cell => true | _ => false
def gl (sc : Scope) (x : PySem.Str) : Bool := match sc.names.lookup x with
  | some .globalImplicit => true | _ => false
def okN (x : PySem.Str) : Bool := !(x == ("__debug__" : PySem.Str)) && (!(x == ("__classdict__" : PySem.Str)) && !(x == ("__name__" : PySem.Str)))
/-- the slot i bears the name x, which is seen here -/
def sees (C : SC) (sc : Scope) (i : Nat) (x : PySem.Str) : Bool := decide (C.N[i]? = some x) && (vis sc x && okN x)
def sets (C : SC) (sc : Scope) (i : Nat) (x : PySem.Str) : Bool := decide (C.N[i]? = some x) && (loc sc x && okN x)
/-- a built-in name -/
def blt (C : SC) (sc : Scope) (x y : PySem.Str) : Bool := x == y && (gl sc x && (C.free.contains x && okN x))
def isCst : D → Expr → Bool
  | .non, .Constant .none _ _ => true
  | .bl b, .Constant (.bool c) _ _ => b == c
  | .int i, .Constant (.int j) _ _ => decide (i = j)
  | .str s, .Constant (.str z) _ _ => decide (s = z)
  | _, _ => false
/-- no form of which other rows are asked -/
def pln : Expr → Bool
  | .Starred _ _ => false
  | .Set _ _ _ => false
  | .Slice _ _ _ _ => false
  | .Call (.Name x _) _ _ _ => !(x == ("super" : PySem.Str))
  | _ => true
def tyVar (o : O) (i : Nat) : Ty := match o with
  | .fz => .v .fz
  | o => .pk i o
/-- one line: the name of a method and its call's end -/
def lineOk (a c : Pos) : Bool := a.endLine == c.line
def shp (C : SC) (sc : Scope) : Op → Expr → Option (List Expr)
  | .neg, .UnaryOp .USub a _ => some [a]
  | .not_, .UnaryOp .Not a _ => some [a]
  | .isN, .Compare a [.Is] [.Constant .none _ _] _ => some [a]
  | .notN, .Compare a [.IsNot] [.Constant .none _ _] _ => some [a]
  | .addI, .BinOp a .Add b _ => some [a, b]
  | .addS, .BinOp a .Add b _ => some [a, b]
  | .cat, .BinOp a .Add b _ => some [a, b]
  | .catT, .BinOp a .Add b _ => some [a, b]
  | .sub, .BinOp a .Sub b _ => some [a, b]
  | .mulI, .BinOp a .Mult b _ => some [a, b]
  | .rep, .BinOp a .Mult b _ => some [a, b]
  | .fdiv, .BinOp a .FloorDiv b _ => some [a, b]
  | .mod, .BinOp a .Mod b _ => some [a, b]
  | .pow, .BinOp a .Pow b _ => some [a, b]
  | .eq, .Compare a [.Eq] [b] _ => some [a, b]
  | .ne, .Compare a [.NotEq] [b] _ => some [a, b]
  | .lt, .Compare a [.Lt] [b] _ => some [a, b]
  | .le, .Compare a [.LtE] [b] _ => some [a, b]
  | .gt, .Compare a [.Gt] [b] _ => some [a, b]
  | .ge, .Compare a [.GtE] [b] _ => some [a, b]
  | .in_, .Compare a [.In] [b] _ => some [a, b]
  | .ni, .Compare a [.NotIn] [b] _ => some [a, b]
  | .sl .l false false, .Subscript a (.Slice none none none _) _ => some [a]
  | .sl .l true false, .Subscript a (.Slice (some b) none none _) _ => some [a, b]
  | .sl .l false true, .Subscript a (.Slice none (some b) none _) _ => some [a, b]
  | .ix, .Subscript a b _ => some [a, b]
  | .mkT _, .Tuple es _ _ => some es
  | .mkL _, .List es _ => some es
  | .len, .Call (.Name f _) [a] [] _ => if blt C sc f "len" then some [a] else none
  | .abs, .Call (.Name f _) [a] [] _ => if blt C sc f "abs" then some [a] else none
  | .max2, .Call (.Name f _) [a, b] [] _ => if blt C sc f "max" then some [a, b] else none
  | .min2, .Call (.Name f _) [a, b] [] _ => if blt C sc f "min" then some [a, b] else none
  | .tuple, .Call (.Name f _) [a] [] _ => if blt C sc f "tuple" then some [a] else none
  | .list, .Call (.Name f _) [a] [] _ => if blt C sc f "list" then some [a] else none
  | .sorted, .Call (.Name f _) [a] [] _ => if blt C sc f "sorted" then some [a] else none
  | .all, .Call (.Name f _) [a] [] _ => if blt C sc f "all" then some [a] else none
  | .int, .Call (.Name f _) [a] [] _ => if blt C sc f "int" then some [a] else none
  | .isL, .Call (.Name f _) [a, .Name g _] [] _ => if blt C sc f "isinstance" && blt C sc g "list" then some [a] else none
  | .rngL, .Call (.Name f _) [.Call (.Name g _) [a] [] _] [] _ => if blt C sc f "list" && blt C sc g "range" then some [a] else none
  | _, _ => none
def sr : Ty → Bool
  | .rf _ => false | _ => true
def bmName : Bm → PySem.Str
  | .cnt => "count"
def tyBm : Bm → Ty → List Ty → Option Ty
  | .cnt, a, r => if sr a && r.all sr then some .sc else none
/-- its items are shared for good -/
def fk : Ty → Bool
  | .sc => true | .v .fz => true | .v (.lst .fz) => true | .v (.tup .fz) => true | .pk _ .fz => true | .pk _ (.lst .fz) => true | .pk _ (.tup .fz) => true | _ => false
def fkL : Ty → Bool
  | .v .fz => true | .v (.lst .fz) => true | .pk _ (.lst .fz) => true | _ => false
/-- may be kept as c -/
def kept (c : O) (ty : Ty) : Bool := match ty with
  | .sc => true
  | .v o => decide (o = c)
  | _ => false
def tupO : O → O
  | .fz => .fz | c => .tup c
def tyOp : Op → List Ty → Option Ty
  | .cat, [a, b] => if fk a && fk b then some (.v (.lst .fz)) else none
  | .catT, [.v .fz, b] => if fk b then some (.v .fz) else none
  | .rep, [a, b] => if fk a && sr b then some (.v (.lst .fz)) else none
  | .ix, [.v .fz, b] => if sr b then some (.v .fz) else none
  | .ix, [.pk i (.lst .fz), b] => if sr b then some (.v .fz) else none
  | .ix, [.pk i (.lst (.lst c)), b] => if sr b then some (.pk i (.lst c)) else none
  | .ix, [.v (.lst .fz), b] => if sr b then some (.v .fz) else none
  | .ix, [.v (.tup .fz), b] => if sr b then some (.v .fz) else none
  | .ix, _ => none
  | .sl .l _ _, a :: r => if fk a && r.all sr then some (.v (.lst .fz)) else none
  | .mkT c, r => if r.all (kept c) then some (.v (tupO c)) else none
  | .mkL c, r => if r.all (kept c) then some (.v (.lst c)) else none
  | .tuple, [a] => if fkL a then some (.v .fz) else none
  | .list, [a] => if fk a then some (.v (.lst .fz)) else none
  | .sorted, [a] => if fk a then some (.v (.lst .fz)) else none
  | .rngL, [a] => if sr a then some (.v (.lst .fz)) else none
  | .cat, _ => none
  | .catT, _ => none
  | .rep, _ => none
  | .sl _ _ _, _ => none
  | .tuple, _ => none
  | .list, _ => none
  | .sorted, _ => none
  | .rngL, _ => none
  | _, r => if r.all sr then some .sc else none
def join (a b : Ty) : Option Ty := if a = b then some a else match a, b with
  | .sc, .v o => some (.v o)
  | .v o, .sc => some (.v o)
  | _, _ => none
def pkOuts (tys : List Ty) (M : List Nat) : Bool := tys.all fun t => pkOut t M
/-- an item's type -/
def itTy : Ty → Option Ty
  | .v .fz => some (.v .fz) | .v (.lst .fz) => some (.v .fz) | .pk _ (.lst .fz) => some (.v .fz) | .v (.tup .fz) => some (.v .fz) | _ => none
/-- the slots that are seen -/
def pkSl : List Ty → List Nat
  | [] => []
  | .pk i _ :: r => i :: pkSl r
  | _ :: r => pkSl r
def tgs (C : SC) (sc : Scope) : List Nat → List Expr → Bool
  | [], [] => true
  | i :: is, .Name x _ :: es => sets C sc i x && (decide (C.g i = .fz) && tgs C sc is es)
  | _, _ => false
def tgOk (C : SC) (sc : Scope) : List Nat → Bool → Expr → Bool
  | [i], false, .Name x _ => sets C sc i x && decide (C.g i = .fz)
  | is, true, .Tuple es _ _ => tgs C sc is es
  | _, _, _ => false
def bBool (o : Op) : Bool := match o with
  | .lt => true | .le => true | .gt => true | .ge => true | _ => false
def cmpIs (o : Op) (c : CmpOp) : Bool := match o, c with
  | .lt, .Lt => true | .le, .LtE => true | .gt, .Gt => true | .ge, .GtE => true | _, _ => false
/-- how an argument meets its parameter -/
def argOk (C : SC) (o : O) (ty : Ty) : Bool := match ty with
  | .rf i => own o && decide (C.g i = o)
  | .sc => !own o
  | .v p => decide (p = o)
  | .pk _ _ => false
def tyRef : Ty → Option Nat
  | .rf i => some i
  | _ => none
def argsOk (C : SC) : List O → List Ty → Bool
  | [], [] => true
  | o :: os, t :: ts => argOk C o t && argsOk C os ts
  | _, _ => false
def distinct : List Nat → Bool
  | [] => true
  | a :: r => !r.contains a && distinct r
/-! may stand as a test -/
mutual
def tstE : E → Bool
  | .ite _ _ _ => false
  | .and_ a b => tstE a && tstE b
  | .or_ a b => tstE a && tstE b
  | .frz a => tstE a
  | .op .not_ as => tstEs as
  | _ => true
def tstEs : Es → Bool
  | .nil => true
  | .cons a _ => tstE a
end
mutual
def ckE (C : SC) (sc : Scope) : E → Expr → Option Ty
  | .cst d, x => if isCst d x then some .sc else none
  | .glb z d, x => (match x with
    | .Name y _ => if z == y && (gl sc y && (okN y && (scal d && (C.cst.any fun p => p.1 == z && (match p.2, d with
      | .int i, .int j => decide (i = j)
      | .str i, .str j => decide (i = j)
      | _, _ => false))))) then some .sc else none
    | _ => none)
  | .var i, x => (match x with
    | .Name y _ => if sees C sc i y then some (tyVar (C.g i) i) else none
    | _ => none)
  | .sv i, x => (match x with
    | .Name y _ => if sees C sc i y then some .sc else none
    | _ => none)
  | .mv i, x => (match x with
    | .Name y _ => if sees C sc i y then some (.v (C.g i)) else none
    | _ => none)
  | .rf i, x => (match x with
    | .Name y _ => if sees C sc i y && own (C.g i) then some (.rf i) else none
    | _ => none)
  | .frz a, x => (match ckE C sc a x with
    | some (.v _) => some (.v .fz)
    | some .sc => some .sc
    | _ => none)
  | .op o as, x => (match shp C sc o x with
    | none => none
    | some es => match ckEs C sc as es with
      | none => none
      | some tys => if pln x then tyOp o tys else none)
  | .and_ a b, x => (match x with
    | .BoolOp .And [x, y] _ => (match ckE C sc a x, ckE C sc b y with
      | some s, some t => if sr s && sr t then some .sc else none
      | _, _ => none)
    | .BoolOp .And (x :: y :: z :: r) p => (match ckE C sc a x, ckE C sc b (.BoolOp .And (y :: z :: r) p) with
      | some s, some t => if sr s && sr t then some .sc else none
      | _, _ => none)
    | _ => none)
  | .or_ a b, x => (match x with
    | .BoolOp .Or [x, y] _ => (match ckE C sc a x, ckE C sc b y with
      | some s, some t => if sr s && sr t then some .sc else none
      | _, _ => none)
    | .BoolOp .Or (x :: y :: z :: r) p => (match ckE C sc a x, ckE C sc b (.BoolOp .Or (y :: z :: r) p) with
      | some s, some t => if sr s && sr t then some .sc else none
      | _, _ => none)
    | _ => none)
  | .ite c a b, x => (match x with
    | .IfExp x y z _ => (match ckE C sc c x, ckE C sc a y, ckE C sc b z with
      | some s, some t, some u => if sr s && tstE c then join t u else none
      | _, _, _ => none)
    | _ => none)
  | .ch o1 o2 a b c, x => (match x with
    | .Compare x [p, q] [y, z] _ => (match ckE C sc a x, ckE C sc b y, ckE C sc c z with
      | some s, some t, some u => if sr s && (sr t && (sr u && (cmpIs o1 p && cmpIs o2 q))) then some .sc else none
      | _, _, _ => none)
    | _ => none)
  | .comp k tg un s c e, x => (match x with
    | .ListComp elt [⟨t, it, ifs, 0⟩] scope _ =>
      if blkC C.N sc scope (tg.filterMap fun i => (C.N[i]?).map fun x => (x, i)) && (decide ((tg.filterMap fun i => (C.N[i]?).map fun x => (x, i)).length = tg.length) && tgOk C scope tg un t) then
        (match ckSrc C sc un s it, ckC C (relS scope sc) c ifs, ckE C (relS scope sc) e elt with
        | some P, some _, some ty => if kept k ty && (P.all (fun i => !(muO c ++ mu e).contains i) && (tg.all (fun i => !(muO c ++ mu e).contains i))) then some (.v (.lst k)) else none
        | _, _, _ => none)
      else none
    | _ => none)
  | .call f as, x => (match x with
    | .Call (.Name x _) (e :: es) [] _ => (match C.fds[f]?, ckEs C sc as (e :: es) with
      | some fd, some tys => if x == fd.name && (gl sc x && (okN x && (decide (as.len = fd.np) && (argsOk C (fd.G.take fd.np) tys && (distinct (refL (refs as)) && !(x == ("super" : PySem.Str))))))) then some (.v fd.ret) else none
      | _, _ => none)
    | _ => none)
  | .pop i a, x => (match x with
    | .Call (.Attribute (.Name y _) m ap) [b] [] cp => (match ckE C sc a b, C.g i with
      | some t, .lst c => if sees C sc i y && (m == ("pop" : PySem.Str) && (lineOk ap cp && (sr t && (pln b && !(mu a).contains i)))) then some (.v c) else none
      | _, _ => none)
    | _ => none)
  | .bm m a as, x => (match x with
    | .Call (.Attribute o x ap) [b] [] cp => (match ckE C sc a o, ckEs C sc as [b] with
      | some t, some ts => if x == bmName m && (lineOk ap cp && pkOut t (muEs as)) then tyBm m t ts else none
      | _, _ => none)
    | _ => none)
def ckC (C : SC) (sc : Scope) : Option' → List Expr → Option Ty
  | .none, es => (match es with
    | [] => some .sc
    | _ => none)
  | .some a, es => (match es with
    | [e] => (match ckE C sc a e with
      | some t => if sr t && tstE a then some t else none
      | none => none)
    | _ => none)
def ckEs (C : SC) (sc : Scope) : Es → List Expr → Option (List Ty)
  | .nil, es => (match es with
    | [] => some []
    | _ => none)
  | .cons a as, es => (match es with
    | e :: es => (match ckE C sc a e, ckEs C sc as es with
      | some t, some ts => if pkOut t (muEs as) && decide (ref1 a = tyRef t) then some (t :: ts) else none
      | _, _ => none)
    | _ => none)
/-- the slots that are walked -/
def ckSrc (C : SC) (sc : Scope) (un : Bool) : Src → Expr → Option (List Nat)
  | .rng1 a, x => (match x with
    | .Call (.Name f _) [x] [] _ => (match ckE C sc a x with
      | some t => if sr t && blt C sc f "range" then some [] else none
      | none => none)
    | _ => none)
  | .rng2 a b, x => (match x with
    | .Call (.Name f _) [x, y] [] _ => (match ckE C sc a x, ckE C sc b y with
      | some t, some u => if sr t && (sr u && (blt C sc f "range" && pkOut t (mu b))) then some [] else none
      | _, _ => none)
    | _ => none)
  | .seq a, x => (match ckE C sc a x with
    | some t => if (itTy t).isSome then some (match t with | .pk i _ => [i] | _ => []) else none
    | none => none)
  | .zip as, x => (match x with
    | .Call (.Name f _) [a, b, c] [] _ => (match ckEs C sc as [a, b, c] with
      | some tys => if un && (tys.all (fun t => (itTy t).isSome) && blt C sc f "zip") then some (pkSl tys) else none
      | none => none)
    | _ => none)
end
end Mini

/-! Mini, part 4: what a Mini text says of the machine; argument lists. -/
namespace Mini
open PySem (Expr Stmt Operator CmpOp UnaryOp BoolOp Const Pos Scope NameKind Addr)
open L2

theorem PE.imp {X : Cx} {e : Expr} {t t' : TE} (h : PE X e t) (k : ∀ σ H Q, t' σ H Q → t σ H Q) : PE X e t' :=
  ⟨fun pins s σ H Q I w => h.run pins s σ H Q I (k σ H Q w)⟩
theorem PT.imp {X : Cx} {e : Expr} {t t' : TT} (h : PT X e t) (k : ∀ σ H Q, t' σ H Q → t σ H Q) : PT X e t' :=
  ⟨fun pins s σ H Q I w => h.run pins s σ H Q I (k σ H Q w)⟩
theorem PSs.imp {X : Cx} {e : List Stmt} {t t' : TS} (h : PSs X e t) (k : ∀ D σ H, t' D σ H → t D σ H) : PSs X e t' :=
  ⟨fun pins s σ H D I w => h.run pins s σ H D I (k D σ H w)⟩
theorem PS.imp {X : Cx} {e : Stmt} {t t' : TS} (h : PS X e t) (k : ∀ D σ H, t' D σ H → t D σ H) : PS X e t' :=
  ⟨fun pins s σ H D I w => h.run pins s σ H D I (k D σ H w)⟩

abbrev WW := Nat → L2.St → Hp → Prop
/-- what is wanted behind a run -/
def Aft {α β : Type} (K : PySem.W.Frag) (G : Nat → O) (W : WW) (P : L2.St → Hp → Hp → (Nat → List Addr) → α → β → List Addr → Prop) (M : List Nat)
    (σ : L2.St) (R : Hp) (F : Nat → List Addr) (H : Hp) (st : Sl) (Q : β → Hp → Prop) : Out α → Prop
  | .ok d st' => ∀ v R' F' H' f, Rel K G σ st' R' H' F' → P σ R' H' F' d v f → Stp M R F H R' F' H' f → (∀ i, i ∉ M → get st' i = get st i) → Q v H'
  | .exc c st' => ∀ R' F' H', Rel K G σ st' R' H' F' → Stp M R F H R' F' H' [] → (∀ i, i ∉ M → get st' i = get st i) → W c σ H'
  | .bad => False
def tE (K : PySem.W.Frag) (G : Nat → O) (W : WW) (ty : Ty) (M : List Nat) (run : Sl → Out D) : TE := fun σ H Q =>
  ∃ st R F, Rel K G σ st R H F ∧ Aft K G W (fun σ R H F d v f => RpT K σ R H F ty d v f) M σ R F H st Q (run st)
/-- values, from the left -/
inductive RpTs (K : PySem.W.Frag) (σ : L2.St) (R H : Hp) (F : Nat → List Addr) : List Ty → List D → List V → List Addr → Prop where
  | nil : RpTs K σ R H F [] [] [] []
  | cons {t : Ty} {ts : List Ty} {d : D} {ds : List D} {v : V} {vs : List V} {f g : List Addr} : RpT K σ R H F t d v f → RpTs K σ R H F ts ds vs g → RpTs K σ R H F (t :: ts) (d :: ds) (v :: vs) (f ++ g)
def tA (K : PySem.W.Frag) (G : Nat → O) (W : WW) (tys : List Ty) (M : List Nat) (run : Sl → Out (List D)) : TA := fun σ H Q =>
  ∃ st R F, Rel K G σ st R H F ∧ Aft K G W (fun σ R H F d v f => RpTs K σ R H F tys d v f) M σ R F H st Q (run st)

section
variable {K : PySem.W.Frag} {G : Nat → O} {W : WW} {σ : L2.St} {st st' st1 : Sl} {R H R' H' R1 H1 R2 H2 : Hp} {F F' F1 F2 : Nat → List Addr} {M M1 M2 : List Nat} {f f1 f2 : List Addr} {ty : Ty} {d : D} {v : V}
theorem RpTs.dom {tys : List Ty} {ds : List D} {vs : List V} (h : RpTs K σ R H F tys ds vs f) : ∀ a ∈ f, ∃ u, H a = some u := by
  induction h with
  | nil =>
    intro a ha
    cases ha
  | cons a _ ih =>
    intro b hb
    rcases List.mem_append.mp hb with hb | hb
    · exact a.dom b hb
    · exact ih b hb
theorem RpTs.length {tys : List Ty} {ds : List D} {vs : List V} (h : RpTs K σ R H F tys ds vs f) : vs.length = ds.length := by
  induction h with
  | nil => rfl
  | cons _ _ ih => rw [List.length_cons, List.length_cons, ih]
/-- a first value and the rest behind it -/
theorem Stp.cat (r1 : Rel K G σ st1 R1 H1 F1) (s : Stp M1 R F H R1 F1 H1 f1) (hk : ∀ a ∈ f1, ∃ u, H1 a = some u) (t : Stp M2 R1 F1 H1 R2 F2 H2 f2) : Stp (M1 ++ M2) R F H R2 F2 H2 (f1 ++ f2) := by
  have tr := s.trans t
  obtain ⟨a1, a2, a3, a4⟩ := t.aside (f1 := f1) s.dj s.off hk
  refine ⟨tr.un, fun a h => ?_, tr.fr, tr.kp, tr.ex, tr.ro, fun a h i => ?_, ?_, fun a h => ?_⟩
  · rcases h with h | h
    · rcases List.mem_append.mp h with h | h
      · rcases s.org a (.inl h) with ⟨i, hi, q⟩ | q
        · exact .inl ⟨i, List.mem_append_left _ hi, q⟩
        · exact .inr q
      · exact tr.org a (.inl h)
    · exact tr.org a (.inr h)
  · rcases List.mem_append.mp h with h | h
    · exact a1 a h i
    · exact t.dj a h i
  · exact List.nodup_append.mpr ⟨s.nd, t.nd, fun a ha b hb e => a3 a ha (e ▸ hb)⟩
  · rcases List.mem_append.mp h with h | h
    · exact a2 a h
    · exact t.off a h
theorem tA_nil {Q : List V → Hp → Prop} (h : tA K G W [] [] (fun st => .ok [] st) σ H Q) : tNil σ H Q := by
  obtain ⟨st, R, F, r, h⟩ := h
  exact h [] R F H [] r .nil .refl (fun _ _ => rfl)
theorem aft_out {α β : Type} {P : L2.St → Hp → Hp → (Nat → List Addr) → α → β → List Addr → Prop} {Q : β → Hp → Prop} {x : Out α} (s : Stp M1 R F H R1 F1 H1 []) (e : ∀ i, i ∉ M1 → get st1 i = get st i) (h : Aft K G W P (M1 ++ M2) σ R F H st Q x) :
    Aft K G W P M2 σ R1 F1 H1 st1 Q x := by
  cases x with
  | ok a st' =>
    intro v R2 F2 H2 f2 r p t q
    refine h v R2 F2 H2 f2 r p (s.trans t) fun i hi => ?_
    rw [List.mem_append, not_or] at hi
    rw [q i hi.2, e i hi.1]
  | exc c st' =>
    intro R2 F2 H2 r t q
    refine h R2 F2 H2 r (s.trans t) fun i hi => ?_
    rw [List.mem_append, not_or] at hi
    rw [q i hi.2, e i hi.1]
  | bad => exact h
theorem tA_cons {tys : List Ty} {run : Sl → Out D} {runs : Sl → Out (List D)} {Q : List V → Hp → Prop} (hp : pkOut ty M2 = true)
    (h : tA K G W (ty :: tys) (M1 ++ M2) (fun st => (run st).bind fun d st1 => (runs st1).map fun ds => d :: ds) σ H Q) : tCons (tE K G W ty M1 run) (tA K G W tys M2 runs) σ H Q := by
  obtain ⟨st, R, F, r, h⟩ := h
  refine ⟨st, R, F, r, ?_⟩
  cases e : run st with
  | bad =>
    simp only [e, Out.bind] at h
    exact h
  | exc c st1 =>
    simp only [e, Out.bind] at h
    exact fun R' F' H' r' s q => h R' F' H' r' (s.weak fun i hi => List.mem_append_left _ hi) fun i hi => q i fun z => hi (List.mem_append_left _ z)
  | ok d st1 =>
    simp only [e, Out.bind] at h
    intro v R1 F1 H1 f1 r1 p1 s1 q1
    refine ⟨st1, R1, F1, r1, ?_⟩
    cases e2 : runs st1 with
    | bad =>
      simp only [e2, Out.map] at h
      exact h
    | exc c st2 =>
      simp only [e2, Out.map] at h
      intro R' F' H' r' s q
      refine h R' F' H' r' (s1.trans s) fun i hi => ?_
      rw [List.mem_append, not_or] at hi
      rw [q i hi.2, q1 i hi.1]
    | ok ds st2 =>
      simp only [e2, Out.map] at h
      intro vs R2 F2 H2 f2 r2 p2 s2 q2
      refine h (v :: vs) R2 F2 H2 (f1 ++ f2) r2 (.cons (RpT.step r1 p1 s1.dj s2 hp) p2) (Stp.cat r1 s1 p1.dom s2) fun i hi => ?_
      rw [List.mem_append, not_or] at hi
      rw [q2 i hi.2, q1 i hi.1]
end
end Mini

/-! Mini, part 5: the operations: their forms, by the layer's rules. -/
namespace Mini
open PySem (Expr Stmt Operator CmpOp UnaryOp BoolOp Const Pos Scope NameKind Addr)
open PySem PyProof.Rows
open L2

theorem PE.cast {X : Cx} {e : Expr} {t t' : TE} (h : PE X e t) (k : t = t') : PE X e t' := k ▸ h
def nst : Expr → Bool
  | .Starred _ _ => false
  | _ => true
theorem star_cons {e : Expr} {es : List Expr} {env : Env} (h : nst e = true) : starEach (e :: es) env = (false, eval e env) :: starEach es env := by
  cases e <;> first | rfl | exact absurd h Bool.false_ne_true
theorem star_any {pos : Pos} {env : Env} : ∀ {es : List Expr}, (∀ e ∈ es, nst e = true) → (backTo pos (starEach es env)).any (·.1) = false
  | [], _ => rfl
  | e :: es, h => by
    rw [star_cons (h e List.mem_cons_self)]
    show (false || (backTo pos (starEach es env)).any (·.1)) = false
    rw [star_any fun x hx => h x (List.mem_cons_of_mem _ hx)]
    rfl
/-- what holds of the place where the text stands -/
structure XOk (k : Nat) (C : SC) (sc : Scope) (X : Cx) : Prop where
  N : X.N = C.N
  nd : C.N.Nodup
  calm : X.calm = true
  scope : X.env.scope = sc
  free : ∀ x, C.free.contains x = true → X.mg x = none
  cst : ∀ p ∈ C.cst, ∃ u, X.mg p.1 = some u ∧ (match p.2 with
    | .int i => RelV (.int i) u
    | .str s => RelV (.str s) u
    | _ => False)
  room : Room k X.A
def chn : List TE → TA
  | [] => tNil
  | t :: ts => tCons t (chn ts)
section
variable {X : Cx} {k : Nat} {C : SC} {sc : Scope} {es : List Expr} {ts : List TE}
theorem gl_ok (h : X.env.scope = sc) {x : PySem.Str} (g : gl sc x = true) : Gl X x := by
  subst h
  unfold gl at g
  split at g
  · rename_i e
    exact e
  · cases g
theorem okN_ok {x : PySem.Str} (h : okN x = true) : (x == ("__debug__" : PySem.Str)) = false ∧ (x == ("__classdict__" : PySem.Str)) = false ∧ x ≠ "__name__" := by
  unfold okN at h
  simp only [Bool.and_eq_true, Bool.not_eq_true'] at h
  exact ⟨h.1, h.2.1, by
    intro e
    have := h.2.2
    rw [e] at this
    simp at this⟩
theorem blt_ok (o : XOk k C sc X) {x y : PySem.Str} (h : blt C sc x y = true) : x = y ∧ Gl X y ∧ X.mg y = none ∧ y ≠ "__name__" ∧ (y == ("__debug__" : PySem.Str)) = false := by
  unfold blt at h
  simp only [Bool.and_eq_true, beq_iff_eq] at h
  obtain ⟨rfl, h2, h3, h4⟩ := h
  exact ⟨rfl, gl_ok o.scope h2, o.free _ h3, (okN_ok h4).2.2, (okN_ok h4).1⟩
theorem XOk.hu (o : XOk k C sc X) : X.A.units + 65 < cLine := by
  have := o.room.un
  omega
end

/-! ### readings by values -/
def on1 (r : V → Hp → VK → Prop) : List V → Hp → VK → Prop := fun vs H Q => match vs with
  | [x] => r x H Q
  | _ => False
def on2 (r : R2) : List V → Hp → VK → Prop := fun vs H Q => match vs with
  | [x, y] => r x y H Q
  | _ => False
def onI (o : Option Int → Prop) : V → Prop := fun v => ∃ i, v = .int i ∧ o (some i)
def rSl (r : V → Option Int → Option Int → Hp → VK → Prop) (lo hi : Bool) : List V → Hp → VK → Prop := fun vs H Q => match lo, hi, vs with
  | false, false, [x] => r x none none H Q
  | true, false, [x, a] => ∃ i, a = .int i ∧ r x (some i) none H Q
  | false, true, [x, b] => ∃ i, b = .int i ∧ r x none (some i) H Q
  | true, true, [x, a, b] => ∃ i, a = .int i ∧ ∃ j, b = .int j ∧ r x (some i) (some j) H Q
  | _, _, _ => False
def rOp (K : PySem.W.Frag) : Op → List V → Hp → VK → Prop
  | .neg => on1 (rU fun i => .int (-i))
  | .not_ => on1 fun x H Q => ∃ c, x = .bl c ∧ Q (.bl (!c)) H
  | .isN => on1 fun x H Q => Q (.bl (decide (x = .non))) H
  | .notN => on1 fun x H Q => Q (.bl (!decide (x = .non))) H
  | .addI => on2 (rI0 fun i j => .int (i + j))
  | .addS => on2 fun x y H Q => ∃ i j, x = .str i ∧ y = .str j ∧ i.length + j.length ≤ sizeLine ∧ Q (.str (i ++ j)) H
  | .cat => on2 rCat
  | .catT => on2 (rCatT K)
  | .sub => on2 (rI0 fun i j => .int (i - j))
  | .mulI => on2 (rI CMul fun i j => .int (i * j))
  | .rep => on2 rRep
  | .fdiv => on2 (rI CDivW fun i j => .int (i / j))
  | .mod => on2 (rI (fun _ j => 0 < j) fun i j => .int (i % j))
  | .pow => on2 (rI CPow fun i j => .int (i ^ j.toNat))
  | .eq => on2 (rEqD K)
  | .ne => on2 (rNeD K)
  | .lt => on2 (rI0 fun i j => .bl (decide (i < j)))
  | .le => on2 (rI0 fun i j => .bl (decide (i ≤ j)))
  | .gt => on2 (rI0 fun i j => .bl (decide (j < i)))
  | .ge => on2 (rI0 fun i j => .bl (decide (j ≤ i)))
  | .in_ => on2 fun x y H Q => rInD K x y H Q ∨ rIn K false x y H Q
  | .ni => on2 fun x y H Q => rNotInD K x y H Q ∨ rIn K true x y H Q
  | .ix => on2 (rIx K)
  | .sl .l lo hi => rSl (rSlL K) lo hi
  | .sl _ _ _ => fun _ _ _ => False
  | .mkT _ => fun vs H Q => vs.length ≤ sizeLine ∧ ∀ p, H p = none → Q (.ref p) (upd H p (.tup vs))
  | .mkL _ => fun vs H Q => vs.length ≤ sizeLine ∧ ∀ p, H p = none → Q (.ref p) (upd H p (.lst vs))
  | .len => fun xs H Q => ∃ x n, xs = [x] ∧ LenV K x H n ∧ Q (.int n) H
  | .abs => fun xs H Q => ∃ i, xs = [.int i] ∧ Q (.int (if i < 0 then -i else i)) H
  | .max2 => fun xs H Q => ∃ i j, xs = [.int i, .int j] ∧ Q (.int (if j > i then j else i)) H
  | .min2 => fun xs H Q => ∃ i j, xs = [.int i, .int j] ∧ Q (.int (if j < i then j else i)) H
  | .tuple => fun xs H Q => ∃ p ys, xs = [.ref p] ∧ ((SqL K H p ys ∧ ∀ l, H l = none → Q (.ref l) (upd H l (.tup ys))) ∨ (SqT K H p ys ∧ Q (.ref p) H))
  | .list => fun xs H Q => ∃ p ys, xs = [.ref p] ∧ (SqL K H p ys ∨ SqT K H p ys) ∧ ∀ l, H l = none → Q (.ref l) (upd H l (.lst ys))
  | .sorted => fun vs H Q => rSortedI K vs H Q ∨ rSortedPO K vs H Q
  | .all => rAll K
  | .int => fun xs H Q => (∃ i, xs = [.int i] ∧ Q (.int i) H) ∨ ∃ k, xs = [.bl k] ∧ Q (.int (if k then 1 else 0)) H
  | .isL => on1 fun x H Q => rIsi K [x, .ty "list"] H Q
  | .rngL => on1 fun x H Q => ∃ n, x = .int n ∧ RgOk 0 n ∧ ∀ q, H q = none → Q (.ref q) (upd H q (.lst (rgV 0 n)))
/-- two rules for one call -/
theorem CallR.or {X : Cx} {f : Value} {r r' : List V → Hp → VK → Prop} (h : CallR X f r) (h' : CallR X f r') : CallR X f (fun xs H Q => r xs H Q ∨ r' xs H Q) := by
  intro pins s σ H xs us Q I rx q
  rcases q with q | q
  · exact h pins s σ H xs us Q I rx q
  · exact h' pins s σ H xs us Q I rx q
def tOpN (K : PySem.W.Frag) (o : Op) (ts : List TE) : TE := fun σ H Q => chn ts σ H fun vs H1 => rOp K o vs H1 Q
theorem plainIx {b : Expr} (h : pln b = true) : PlainIx b := by
  intro o i
  cases b <;> first | rfl | exact absurd h Bool.false_ne_true
theorem mark_of {op : CmpOp} {b : Expr} (h : pln b = true) : behindInMarks op b = false := by
  cases b <;> first | rfl | exact absurd h Bool.false_ne_true
theorem nst_of {b : Expr} (h : pln b = true) : nst b = true := by
  cases b <;> first | rfl | exact absurd h Bool.false_ne_true
theorem attr_base {o : Expr} {f : PySem.Str} {env : Env} (h : pln o = true) : attributeBase o f env (eval o env) = eval o env := by
  cases o with
  | Call fn as kw p =>
    cases fn with
    | Name x q =>
      have hx : (!(x == ("super" : PySem.Str))) = true := h
      cases as with
      | cons _ _ => rfl
      | nil =>
        cases kw with
        | cons _ _ => rfl
        | nil =>
          unfold attributeBase
          have hne : (x != ("super" : PySem.Str)) = true := by simpa [bne] using hx
          simp only [hne, Bool.true_or, if_true]
    | _ => rfl
  | _ => rfl
inductive PEl (X : Cx) : List Expr → List TE → Prop where
  | nil : PEl X [] []
  | cons {e : Expr} {es : List Expr} {t : TE} {ts : List TE} : pln e = true → PE X e t → PEl X es ts → PEl X (e :: es) (t :: ts)
section
variable {X : Cx} {es : List Expr} {ts : List TE}
theorem PEl.pa (h : PEl X es ts) : PA X es (chn ts) := by
  induction h with
  | nil => exact pa_nil
  | cons n p _ ih => exact pa_cons p ih (star_cons (nst_of n))
theorem PEl.nst (h : PEl X es ts) : ∀ e ∈ es, nst e = true := by
  induction h with
  | nil =>
    intro e he
    cases he
  | cons n p _ ih =>
    intro x hx
    rcases List.mem_cons.mp hx with rfl | hx
    · exact nst_of n
    · exact ih x hx
theorem PEl.one {a : Expr} (h : PEl X [a] ts) : ∃ t, ts = [t] ∧ PE X a t ∧ pln a = true := by
  cases h with
  | cons n p q =>
    cases q
    exact ⟨_, rfl, p, n⟩
theorem PEl.two {a b : Expr} (h : PEl X [a, b] ts) : ∃ t u, ts = [t, u] ∧ PE X a t ∧ PE X b u ∧ pln a = true ∧ pln b = true := by
  cases h with
  | cons n p q =>
    obtain ⟨u, rfl, p2, n2⟩ := q.one
    exact ⟨_, _, rfl, p, p2, n, n2⟩
theorem PEl.three {a b c : Expr} (h : PEl X [a, b, c] ts) : ∃ t u v, ts = [t, u, v] ∧ PE X a t ∧ PE X b u ∧ PE X c v := by
  cases h with
  | cons n p q =>
    obtain ⟨u, v, rfl, p2, p3, _⟩ := q.two
    exact ⟨_, _, _, rfl, p, p2, p3⟩
end
end Mini

/-! Mini, part 6: each operation's form keeps its reading. -/
namespace Mini
open PySem (Expr Stmt Operator CmpOp UnaryOp BoolOp Const Pos Scope NameKind Addr)
open PySem PyProof.Rows
open L2
section
variable {X : Cx} {k : Nat} {C : SC} {sc : Scope} {es : List Expr} {ts : List TE} {o : Op} {e : Expr}
theorem callB_syn {id : String} {r : List V → Hp → VK → Prop} {x y : PySem.Str} {p pos : Pos} {a : Expr} {as : List Expr} (O : XOk k C sc X) (hc : CallR X (.builtin id) r) (hv : bootBuiltins y = some (.builtin id)) (hb : blt C sc x y = true)
    (L : PEl X (a :: as) ts) : PE X (.Call (.Name x p) (a :: as) [] pos) (tCB r (chn ts)) := by
  obtain ⟨rfl, g, m, n, d⟩ := blt_ok O hb
  refine pe_callB hc g m hv L.pa n d ?_ ?_
  · exact star_cons (L.nst a List.mem_cons_self)
  · exact star_any fun z hz => L.nst z (List.mem_cons_of_mem _ hz)
theorem callT_syn {id : String} {r : List V → Hp → VK → Prop} {x y : PySem.Str} {p pos : Pos} {a : Expr} {as : List Expr} (O : XOk k C sc X) (hc : CallR X (.type id) r) (hv : bootBuiltins y = some (.type id)) (hb : blt C sc x y = true)
    (L : PEl X (a :: as) ts) : PE X (.Call (.Name x p) (a :: as) [] pos) (tCB r (chn ts)) := by
  obtain ⟨rfl, g, m, n, d⟩ := blt_ok O hb
  refine pe_callTy hc g m hv L.pa n d ?_ ?_
  · exact star_cons (L.nst a List.mem_cons_self)
  · exact star_any fun z hz => L.nst z (List.mem_cons_of_mem _ hz)
theorem op_syn (O : XOk k C sc X) (h : shp C sc o e = some es) (L : PEl X es ts) : PE X e (tOpN X.K o ts) := by
  have hu := O.hu
  have hc := O.calm
  unfold shp at h
  split at h
  all_goals try (cases h)
  · obtain ⟨t, rfl, p, _⟩ := L.one; exact pe_un un_neg p
  · obtain ⟨t, rfl, p, _⟩ := L.one; exact pe_not p
  · obtain ⟨t, rfl, p, _⟩ := L.one; exact pe_cmp (pc_isN p) rfl
  · obtain ⟨t, rfl, p, _⟩ := L.one; exact pe_cmp (pc_notN p) rfl
  · obtain ⟨t, u, rfl, p, q, _, _⟩ := L.two; exact pe_op op_add p q
  · obtain ⟨t, u, rfl, p, q, _, _⟩ := L.two; exact pe_op op_add_str p q
  · obtain ⟨t, u, rfl, p, q, _, _⟩ := L.two; exact pe_op op_cat p q
  · obtain ⟨t, u, rfl, p, q, _, _⟩ := L.two; exact pe_op op_catT p q
  · obtain ⟨t, u, rfl, p, q, _, _⟩ := L.two; exact pe_op op_sub p q
  · obtain ⟨t, u, rfl, p, q, _, _⟩ := L.two; exact pe_op op_mul p q
  · obtain ⟨t, u, rfl, p, q, _, _⟩ := L.two; exact pe_op op_rep p q
  · obtain ⟨t, u, rfl, p, q, _, _⟩ := L.two; exact pe_op op_fdivW p q
  · obtain ⟨t, u, rfl, p, q, _, _⟩ := L.two; exact pe_op op_mod p q
  · obtain ⟨t, u, rfl, p, q, _, _⟩ := L.two; exact pe_op op_pow p q
  · obtain ⟨t, u, rfl, p, q, _, _⟩ := L.two; exact pe_cmpR (op_eqD (by omega)) p q (nomark _)
  · obtain ⟨t, u, rfl, p, q, _, _⟩ := L.two; exact pe_cmpR (op_neD (by omega)) p q (nomark _)
  · obtain ⟨t, u, rfl, p, q, _, _⟩ := L.two; exact pe_cmpR op_lt p q (nomark _)
  · obtain ⟨t, u, rfl, p, q, _, _⟩ := L.two; exact pe_cmpR op_le p q (nomark _)
  · obtain ⟨t, u, rfl, p, q, _, _⟩ := L.two; exact pe_cmpR op_gt p q (nomark _)
  · obtain ⟨t, u, rfl, p, q, _, _⟩ := L.two; exact pe_cmpR op_ge p q (nomark _)
  · obtain ⟨t, u, rfl, p, q, _, n⟩ := L.two; exact pe_cmpR ((op_inD hu).or op_in_seq) p q (mark_of n)
  · obtain ⟨t, u, rfl, p, q, _, n⟩ := L.two; exact pe_cmpR ((op_notInD hu).or op_notIn_seq) p q (mark_of n)
  · obtain ⟨t, rfl, p, _⟩ := L.one; exact pe_slice sl_list p po_none po_none
  · obtain ⟨t, u, rfl, p, q, _, n⟩ := L.two; exact pe_slice sl_list p (po_some q) po_none
  · obtain ⟨t, u, rfl, p, q, _, n⟩ := L.two; exact pe_slice sl_list p po_none (po_some q)
  · obtain ⟨t, u, rfl, p, q, _, n⟩ := L.two; exact pe_ix ix_seq p q (plainIx n)
  · exact pe_tup L.pa
  · exact pe_lst L.pa
  · split at h
    · rename_i hb; cases h; exact callB_syn O call_len PySem.boot_len hb L
    · cases h
  · split at h
    · rename_i hb; cases h; exact callB_syn O call_abs PyProof.Rows.boot_abs hb L
    · cases h
  · split at h
    · rename_i hb; cases h; exact callB_syn O (call_max2 hc) PyProof.Rows.boot_max hb L
    · cases h
  · split at h
    · rename_i hb; cases h; exact callB_syn O (call_min2 hc) PyProof.Rows.boot_min hb L
    · cases h
  · split at h
    · rename_i hb; cases h; exact callT_syn O call_tuple_of PyProof.Rows.boot_tuple hb L
    · cases h
  · split at h
    · rename_i hb; cases h; exact callT_syn O call_list_of PyProof.Rows.boot_list hb L
    · cases h
  · split at h
    · rename_i hb; cases h; exact callB_syn O (CallR.or cr_sortedI cr_sortedPO) PyProof.Rows.boot_sorted hb L
    · cases h
  · split at h
    · rename_i hb; cases h; exact callB_syn O (cr_all hc) PyProof.Rows.boot_all hb L
    · cases h
  · split at h
    · rename_i hb; cases h; exact callT_syn O call_int1 PyProof.Rows.boot_int hb L
    · cases h
  · split at h
    · rename_i hb
      cases h
      rw [Bool.and_eq_true] at hb
      obtain ⟨hb1, hb2⟩ := hb
      obtain ⟨t, rfl, p, n⟩ := L.one
      obtain ⟨rfl, g2, m2, n2, d2⟩ := blt_ok O hb2
      exact callB_syn (ts := [t, tC (.ty "list")]) O call_isi PyProof.Rows.boot_isinstance hb1 (.cons n p (.cons rfl (pe_bltn g2 m2 PyProof.Rows.boot_list rfl n2 d2) .nil))
    · cases h
  · split at h
    · rename_i hb
      cases h
      rw [Bool.and_eq_true] at hb
      obtain ⟨hb1, hb2⟩ := hb
      obtain ⟨t, rfl, p, n⟩ := L.one
      obtain ⟨rfl, g1, m1, n1, d1⟩ := blt_ok O hb1
      obtain ⟨rfl, g2, m2, n2, d2⟩ := blt_ok O hb2
      refine PE.imp (pe_listRg hc g1 m1 (prg_1 g2 m2 p (star_cons (nst_of n))) rfl) fun σ H Q w => ?_
      exact w
    · cases h
end
end Mini

/-! Mini, part 7: each operation's reading is what the run says. -/
namespace Mini
open PySem (Expr Stmt Operator CmpOp UnaryOp BoolOp Const Pos Scope NameKind Addr)
open PySem PyProof.Rows
open L2

/-- what an operation that changes nothing leaves -/
structure OpPost (R H : Hp) (f : List Addr) (R2 H2 : Hp) (f2 : List Addr) : Prop where
  ex : Sub R R2
  hk : Sub H H2
  ro : ∀ a u, R2 a = some u → R a = some u ∨ a ∈ f ∨ H a = none
  sub : Sub R2 H2
  fo : ∀ a ∈ f2, a ∈ f ∨ H a = none
  nd : f2.Nodup
  off : ∀ a ∈ f2, R2 a = none
theorem Sub.upd {H : Hp} {p : Addr} {o : HO} (h : H p = none) : Sub H (L2.upd H p o) := fun a u e => by
  rw [upd_ne (ne_of_none e h)]
  exact e
theorem Sub.both {R H : Hp} {p : Addr} {o : HO} (s : Sub R H) : Sub (L2.upd R p o) (L2.upd H p o) := fun a u e => by
  by_cases h : a = p
  · subst h
    rw [upd_same] at e ⊢
    exact e
  · rw [upd_ne h] at e ⊢
    exact s a u e
theorem Sub.none {R H : Hp} (s : Sub R H) {p : Addr} (h : H p = none) : R p = none := by
  cases e : R p with
  | none => rfl
  | some u =>
    rw [s p u e] at h
    cases h
section
variable {K : PySem.W.Frag} {G : Nat → O} {σ : L2.St} {st : Sl} {R H R2 H2 : Hp} {F : Nat → List Addr} {f f2 : List Addr} {ty t : Ty} {d : D} {v : V} {tys : List Ty} {ds : List D} {vs : List V} {Q : VK} {o : Op}
theorem OpPost.refl (s : Sub R H) : OpPost R H f R H [] := ⟨Sub.refl R, Sub.refl H, fun _ _ h => .inl h, s, fun _ h => (nomatch h), List.nodup_nil, fun _ h => (nomatch h)⟩
/-- a new list of one's own -/
theorem OpPost.lst {p : Addr} {o : HO} (s : Sub R H) (h : H p = none) : OpPost R H f R (upd H p o) [p] :=
  ⟨Sub.refl R, Sub.upd h, fun _ _ h => .inl h, s.trans (Sub.upd h), fun a ha => .inr (by rw [List.mem_singleton.mp ha]; exact h), List.nodup_cons.mpr ⟨fun h => (nomatch h), List.nodup_nil⟩, fun a ha => (by rw [List.mem_singleton.mp ha]; exact s.none h)⟩
/-- a new object that is shared -/
theorem OpPost.fzd {p : Addr} {o : HO} (s : Sub R H) (h : H p = none) : OpPost R H f (upd R p o) (upd H p o) [] :=
by
  refine ⟨Sub.upd (s.none h), Sub.upd h, fun a u e => ?_, s.both, fun _ h => (nomatch h), List.nodup_nil, fun _ h => (nomatch h)⟩
  by_cases q : a = p
  · subst q
    exact .inr (.inr h)
  · rw [upd_ne q] at e
    exact .inl e
theorem RpTs.rep (r : Rel K G σ st R H F) (p : RpTs K σ R H F tys ds vs f) (h : tys.all sr = true) : RepL K H ds vs := by
  induction p with
  | nil => exact rfl
  | cons a _ ih =>
    rw [List.all_cons, Bool.and_eq_true] at h
    refine ⟨_, _, rfl, RpT.rep r a (fun i e => ?_), ih h.2⟩
    have h1 := h.1
    rw [e] at h1
    cases h1
theorem fk_lst {ds : List D} (r : Rel K G σ st R H F) (h : fk t = true) (p : RpT K σ R H F t (.lst ds) v f) : ∃ q vs, v = .ref q ∧ H q = some (.lst vs) ∧ RepL K R ds vs := by
  have fz : ∀ {v f}, RpO K R H .fz (.lst ds) v f → ∃ q vs, v = .ref q ∧ H q = some (.lst vs) ∧ RepL K R ds vs := by
    rintro v f ⟨⟨q, vs, rfl, hq, hl⟩, _⟩
    exact ⟨q, vs, rfl, r.sub _ _ hq, hl⟩
  have ow : ∀ {v f}, RpO K R H (.lst .fz) (.lst ds) v f → ∃ q vs, v = .ref q ∧ H q = some (.lst vs) ∧ RepL K R ds vs := by
    rintro v f (⟨e, _⟩ | ⟨_, q, vs, g, e, rfl, hq, hl, _⟩)
    · cases e
    · cases e
      exact ⟨q, vs, rfl, hq, hl.fz.1⟩
  have tp : ∀ {v f}, RpO K R H (.tup .fz) (.lst ds) v f → ∃ q vs, v = .ref q ∧ H q = some (.lst vs) ∧ RepL K R ds vs := by
    rintro v f (⟨e, _⟩ | ⟨_, q, vs, g, e, _⟩)
    · cases e
    · cases e
  unfold fk at h
  split at h
  all_goals first
    | (obtain ⟨e, _⟩ := p; cases e; done)
    | exact fz p
    | exact ow p
    | exact tp p
    | (obtain ⟨_, g, q, _⟩ := p; exact fz q)
    | (obtain ⟨_, g, q, _⟩ := p; exact ow q)
    | (obtain ⟨_, g, q, _⟩ := p; exact tp q)
    | cases h
theorem fk_tup {ds : List D} (r : Rel K G σ st R H F) (h : fk t = true) (p : RpT K σ R H F t (.tup ds) v f) : ∃ q vs, v = .ref q ∧ H q = some (.tup vs) ∧ RepL K R ds vs := by
  have fz : ∀ {v f}, RpO K R H .fz (.tup ds) v f → ∃ q vs, v = .ref q ∧ H q = some (.tup vs) ∧ RepL K R ds vs := by
    rintro v f ⟨⟨q, vs, rfl, hq, hl⟩, _⟩
    exact ⟨q, vs, rfl, r.sub _ _ hq, hl⟩
  have ow : ∀ {v f}, RpO K R H (.tup .fz) (.tup ds) v f → ∃ q vs, v = .ref q ∧ H q = some (.tup vs) ∧ RepL K R ds vs := by
    rintro v f (⟨e, _⟩ | ⟨_, q, vs, g, e, rfl, hq, hl, _⟩)
    · cases e
    · cases e
      exact ⟨q, vs, rfl, hq, hl.fz.1⟩
  have tp : ∀ {v f}, RpO K R H (.lst .fz) (.tup ds) v f → ∃ q vs, v = .ref q ∧ H q = some (.tup vs) ∧ RepL K R ds vs := by
    rintro v f (⟨e, _⟩ | ⟨_, q, vs, g, e, _⟩)
    · cases e
    · cases e
  unfold fk at h
  split at h
  all_goals first
    | (obtain ⟨e, _⟩ := p; cases e; done)
    | exact fz p
    | exact ow p
    | exact tp p
    | (obtain ⟨_, g, q, _⟩ := p; exact fz q)
    | (obtain ⟨_, g, q, _⟩ := p; exact ow q)
    | (obtain ⟨_, g, q, _⟩ := p; exact tp q)
    | cases h
/-! ### the deep data of the library -/
mutual
theorem Rep.dp : ∀ (d : D) (v : V) (p : PyData), Rep K H d v → d.py = some p → Dp K H v p
  | .non, _, _, q, e => by
    cases e
    rw [show _ = V.non from q]
    exact .non
  | .bl b, _, _, q, e => by
    cases e
    rw [show _ = V.bl b from q]
    exact .bl b
  | .int b, _, _, q, e => by
    cases e
    rw [show _ = V.int b from q]
    exact .int b
  | .str b, _, _, q, e => by
    cases e
    rw [show _ = V.str b from q]
    exact .str b
  | .tup ds, _, _, ⟨a, vs, rfl, h, q⟩, e => by
    have e' : (pyL ds).map PyData.tuple = some _ := e
    cases e2 : pyL ds with
    | none => rw [e2] at e'; cases e'
    | some ps =>
      rw [e2] at e'
      cases e'
      exact .tup (.inl (.inl h)) (RepL.dp ds vs ps q e2)
  | .lst ds, _, _, ⟨a, vs, rfl, h, q⟩, e => by
    have e' : (pyL ds).map PyData.list = some _ := e
    cases e2 : pyL ds with
    | none => rw [e2] at e'; cases e'
    | some ps =>
      rw [e2] at e'
      cases e'
      exact .lst (.inl (.inl h)) (RepL.dp ds vs ps q e2)
  | .scr ns, _, _, ⟨a, rfl, h⟩, e => by
    cases e
    refine .lst h ?_
    have : ∀ ns : List Int, DpAll K H (ns.map V.int) (ns.map PyData.int) := by
      intro ns
      induction ns with
      | nil => exact .nil
      | cons n ns ih => exact .cons (.int n) ih
    exact this ns
  | .dct _, _, _, q, _ => q.elim
  | .obj _ _, _, _, q, _ => q.elim
  | .exn _, _, _, q, _ => q.elim
theorem RepL.dp : ∀ (ds : List D) (vs : List V) (ps : List PyData), RepL K H ds vs → pyL ds = some ps → DpAll K H vs ps
  | [], _, _, q, e => by
    cases e
    rw [show _ = [] from q]
    exact .nil
  | d :: ds, _, ps, ⟨w, ws, rfl, a, b⟩, e => by
    unfold pyL at e
    split at e
    · rename_i p1 ps1 e1 e2
      cases e
      exact .cons (Rep.dp d w _ a e1) (RepL.dp ds ws _ b e2)
    · cases e
end
theorem eqD_dp {a b : D} {x y : V} {c : Bool} (ha : Rep K H a x) (hb : Rep K H b y) (h : eqD a b = some c) : ∃ p q, Dp K H x p ∧ Dp K H y q ∧ SeqAt.shaped p = true ∧ SeqAt.shaped q = true ∧ PyData.eqv p q = c := by
  unfold eqD at h
  split at h
  · rename_i p q e1 e2
    split at h
    · rename_i s
      rw [Bool.and_eq_true] at s
      cases h
      exact ⟨p, q, Rep.dp _ _ _ ha e1, Rep.dp _ _ _ hb e2, s.1, s.2, rfl⟩
    · cases h
  · cases h
/-! ### sorting -/
theorem ins_perm {α : Type} (le : α → α → Bool) (x : α) : ∀ l : List α, (ins le x l).Perm (x :: l)
  | [] => List.Perm.refl _
  | y :: ys => by
    unfold ins
    split
    · exact List.Perm.refl _
    · exact ((ins_perm le x ys).cons y).trans (List.Perm.swap x y ys)
theorem isort_perm {α : Type} (le : α → α → Bool) : ∀ l : List α, (isort le l).Perm l
  | [] => List.Perm.refl _
  | x :: l => (ins_perm le x (isort le l)).trans ((isort_perm le l).cons x)
theorem ins_pw {α : Type} {le : α → α → Bool} (tot : ∀ a b, le a b = true ∨ le b a = true) (tr : ∀ a b c, le a b = true → le b c = true → le a c = true) (x : α) :
    ∀ l : List α, l.Pairwise (fun a b => le a b = true) → (ins le x l).Pairwise (fun a b => le a b = true)
  | [], _ => List.pairwise_singleton _ _
  | y :: ys, h => by
    obtain ⟨h1, h2⟩ := List.pairwise_cons.mp h
    unfold ins
    split
    · rename_i e
      refine List.pairwise_cons.mpr ⟨fun z hz => ?_, h⟩
      rcases List.mem_cons.mp hz with rfl | hz
      · exact e
      · exact tr _ _ _ e (h1 z hz)
    · rename_i e
      refine List.pairwise_cons.mpr ⟨fun z hz => ?_, ins_pw tot tr x ys h2⟩
      rcases List.mem_cons.mp ((ins_perm le x ys).mem_iff.mp hz) with rfl | hz
      · exact (tot z y).resolve_left e
      · exact h1 z hz
theorem isort_pw {α : Type} {le : α → α → Bool} (tot : ∀ a b, le a b = true ∨ le b a = true) (tr : ∀ a b c, le a b = true → le b c = true → le a c = true) :
    ∀ l : List α, (isort le l).Pairwise (fun a b => le a b = true)
  | [] => List.Pairwise.nil
  | x :: l => ins_pw tot tr x _ (isort_pw tot tr l)
theorem sort_uniq {α : Type} {le : α → α → Bool} (as : ∀ a b, le a b = true → le b a = true → a = b) : ∀ (l m : List α), l.Perm m → l.Pairwise (fun a b => le a b = true) → m.Pairwise (fun a b => le a b = true) → l = m
  | [], m, p, _, _ => (List.nil_perm.mp p).symm ▸ rfl
  | x :: l, [], p, _, _ => by simpa using p.length_eq
  | x :: l, y :: m, p, h, k => by
    obtain ⟨h1, h2⟩ := List.pairwise_cons.mp h
    obtain ⟨k1, k2⟩ := List.pairwise_cons.mp k
    have e : x = y := by
      rcases List.mem_cons.mp (p.mem_iff.mp List.mem_cons_self) with e | e
      · exact e
      · rcases List.mem_cons.mp (p.mem_iff.mpr List.mem_cons_self) with e2 | e2
        · exact e2.symm
        · exact as _ _ (h1 y e2) (k1 x e)
    subst e
    rw [sort_uniq as l m (List.Perm.cons_inv p) h2 k2]
theorem leI_tot (a b : Int) : leI a b = true ∨ leI b a = true := by
  unfold leI
  simp only [decide_eq_true_eq]
  omega
theorem leI_tr (a b c : Int) (h : leI a b = true) (k : leI b c = true) : leI a c = true := by
  unfold leI at *
  simp only [decide_eq_true_eq] at *
  omega
theorem leI_as (a b : Int) (h : leI a b = true) (k : leI b a = true) : a = b := by
  unfold leI at *
  simp only [decide_eq_true_eq] at *
  omega
theorem leP_tot (a b : Int × Int) : leP a b = true ∨ leP b a = true := by
  unfold leP
  simp only [Bool.or_eq_true, Bool.and_eq_true, decide_eq_true_eq]
  omega
theorem leP_tr (a b c : Int × Int) (h : leP a b = true) (k : leP b c = true) : leP a c = true := by
  unfold leP at *
  simp only [Bool.or_eq_true, Bool.and_eq_true, decide_eq_true_eq] at *
  omega
theorem leP_as (a b : Int × Int) (h : leP a b = true) (k : leP b a = true) : a = b := by
  unfold leP at *
  simp only [Bool.or_eq_true, Bool.and_eq_true, decide_eq_true_eq] at *
  exact Prod.ext (by omega) (by omega)
theorem intsD_rep : ∀ {ds : List D} {ns : List Int} {vs : List V}, intsD ds = some ns → RepL K R ds vs → vs = ns.map V.int
  | [], ns, vs, h, q => by
    cases h
    exact q
  | .int i :: ds, ns, _, h, ⟨w, ws, rfl, a, b⟩ => by
    have h' : (intsD ds).map (i :: ·) = some ns := h
    cases e : intsD ds with
    | none => rw [e] at h'; cases h'
    | some ms =>
      rw [e] at h'
      cases h'
      rw [show w = V.int i from a, intsD_rep e b]
      rfl
  | .non :: _, _, _, h, _ => by cases h
  | .bl _ :: _, _, _, h, _ => by cases h
  | .str _ :: _, _, _, h, _ => by cases h
  | .tup _ :: _, _, _, h, _ => by cases h
  | .lst _ :: _, _, _, h, _ => by cases h
  | .scr _ :: _, _, _, h, _ => by cases h
  | .dct _ :: _, _, _, h, _ => by cases h
  | .obj _ _ :: _, _, _, h, _ => by cases h
  | .exn _ :: _, _, _, h, _ => by cases h
theorem ints_rep : ∀ (ns : List Int), RepL K R (ns.map D.int) (ns.map V.int)
  | [] => rfl
  | n :: ns => ⟨_, _, rfl, rfl, ints_rep ns⟩
theorem boolsD_rep : ∀ {ds : List D} {ns : List Bool} {vs : List V}, boolsD ds = some ns → RepL K R ds vs → vs = ns.map V.bl
  | [], ns, vs, h, q => by
    cases h
    exact q
  | .bl i :: ds, ns, _, h, ⟨w, ws, rfl, a, b⟩ => by
    have h' : (boolsD ds).map (i :: ·) = some ns := h
    cases e : boolsD ds with
    | none => rw [e] at h'; cases h'
    | some ms =>
      rw [e] at h'
      cases h'
      rw [show w = V.bl i from a, boolsD_rep e b]
      rfl
  | .non :: _, _, _, h, _ => by cases h
  | .int _ :: _, _, _, h, _ => by cases h
  | .str _ :: _, _, _, h, _ => by cases h
  | .tup _ :: _, _, _, h, _ => by cases h
  | .lst _ :: _, _, _, h, _ => by cases h
  | .scr _ :: _, _, _, h, _ => by cases h
  | .dct _ :: _, _, _, h, _ => by cases h
  | .obj _ _ :: _, _, _, h, _ => by cases h
  | .exn _ :: _, _, _, h, _ => by cases h
/-- the pair at a value, read off -/
def kOf (R : Hp) : V → Int × Int
  | .ref t => (match R t with
    | some (.tup [.int a, .int b]) => (a, b)
    | _ => (0, 0))
  | _ => (0, 0)
theorem pairsD_rep : ∀ {ds : List D} {ps : List (Int × Int)} {vs : List V}, pairsD ds = some ps → RepL K R ds vs → vs.map (kOf R) = ps ∧ ∀ x ∈ vs, ∃ t, x = .ref t ∧ R t = some (.tup [.int (kOf R x).1, .int (kOf R x).2])
  | [], ps, vs, h, q => by
    cases h
    rw [show vs = [] from q]
    exact ⟨rfl, fun _ h => nomatch h⟩
  | d :: ds, ps, _, h, ⟨w, ws, rfl, a, b⟩ => by
    unfold pairsD at h
    split at h
    · rename_i e
      cases e
    · rename_i x y ds' e
      cases e
      cases e2 : pairsD ds with
      | none => rw [e2] at h; cases h
      | some qs =>
        rw [e2] at h
        cases h
        obtain ⟨h1, h2⟩ := pairsD_rep e2 b
        obtain ⟨p, us, rfl, hp, _, _, rfl, rfl, _, _, rfl, rfl, rfl⟩ := a
        have e3 : kOf R (.ref p) = (x, y) := by
          show (match R p with
            | some (.tup [.int a, .int b]) => (a, b)
            | _ => (0, 0)) = _
          rw [hp]
        refine ⟨by rw [List.map_cons, e3, h1], fun z hz => ?_⟩
        rcases List.mem_cons.mp hz with rfl | hz
        · exact ⟨p, rfl, by rw [e3]; exact hp⟩
        · exact h2 z hz
    · cases h
theorem kOf_rep : ∀ (ys : List V), (∀ x ∈ ys, ∃ t, x = .ref t ∧ R t = some (.tup [.int (kOf R x).1, .int (kOf R x).2])) → RepL K R ((ys.map (kOf R)).map prD) ys
  | [], _ => rfl
  | y :: ys, h => by
    obtain ⟨t, e, ht⟩ := h y List.mem_cons_self
    refine ⟨y, ys, rfl, ⟨t, _, e, ht, _, _, rfl, rfl, _, _, rfl, rfl, rfl⟩, kOf_rep ys fun x hx => h x (List.mem_cons_of_mem _ hx)⟩
end
end Mini

/-! Mini, part 8: the operations, run and reading. -/
namespace Mini
open PySem (Expr Stmt Operator CmpOp UnaryOp BoolOp Const Pos Scope NameKind Addr)
open PySem PyProof.Rows
open L2
def isSc : Op → Bool
  | .neg => true | .not_ => true | .isN => true | .notN => true | .addI => true | .addS => true | .sub => true | .mulI => true | .fdiv => true | .mod => true | .pow => true
  | .eq => true | .ne => true | .lt => true | .le => true | .gt => true | .ge => true | .in_ => true | .ni => true
  | .len => true | .abs => true | .max2 => true | .min2 => true | .all => true | .int => true | .isL => true
  | _ => false
theorem tyOp_sc {o : Op} {tys : List Ty} {ty : Ty} (h : isSc o = true) (ht : tyOp o tys = some ty) : ty = .sc ∧ tys.all sr = true := by
  unfold tyOp at ht
  split at ht
  all_goals first
    | (cases h; done)
    | (split at ht
       · rename_i e
         cases ht
         exact ⟨rfl, e⟩
       · cases ht)
theorem limL {n : Nat} (h : n ≤ lim) : n ≤ sizeLine := Nat.le_trans h (by rw [sizeLine_eq]; decide)
section
variable {K : PySem.W.Frag} {G : Nat → O} {σ : L2.St} {st : Sl} {R H R2 H2 : Hp} {F : Nat → List Addr} {f f2 : List Addr} {ty t : Ty} {d : D} {v : V} {tys : List Ty} {ds : List D} {vs : List V} {Q : VK} {o : Op}
theorem rep_non {v : V} (d : D) (h : Rep K R d v) : decide (v = .non) = isNon d := by
  cases d <;> first
    | (rw [show v = _ from h]; rfl)
    | (obtain ⟨p, vs, rfl, _⟩ := h; rfl)
    | (obtain ⟨p, rfl, _⟩ := h; rfl)
    | exact h.elim
theorem RpTs.one {t : Ty} {d : D} (p : RpTs K σ R H F [t] [d] vs f) : ∃ v, vs = [v] ∧ RpT K σ R H F t d v f := by
  cases p with
  | cons a b =>
    cases b
    rw [List.append_nil]
    exact ⟨_, rfl, a⟩
theorem RpTs.two {t u : Ty} {d e : D} (p : RpTs K σ R H F [t, u] [d, e] vs f) : ∃ v w g1 g2, vs = [v, w] ∧ RpT K σ R H F t d v g1 ∧ RpT K σ R H F u e w g2 ∧ f = g1 ++ g2 := by
  cases p with
  | cons a b =>
    obtain ⟨w, rfl, c⟩ := b.one
    exact ⟨_, _, _, _, rfl, a, c, rfl⟩
theorem RpTs.lens (p : RpTs K σ R H F tys ds vs f) : tys.length = ds.length := by
  induction p with
  | nil => rfl
  | cons _ _ ih => rw [List.length_cons, List.length_cons, ih]
theorem RpTs.tys1 {d : D} (p : RpTs K σ R H F tys [d] vs f) : ∃ t, tys = [t] := by
  cases p with
  | cons a b =>
    cases b
    exact ⟨_, rfl⟩
theorem RpTs.tys2 {d e : D} (p : RpTs K σ R H F tys [d, e] vs f) : ∃ t u, tys = [t, u] := by
  cases p with
  | cons a b =>
    obtain ⟨t, rfl⟩ := b.tys1
    exact ⟨_, _, rfl⟩
/-- all shared: kept as shared -/
theorem RpTs.kept {c : O} (p : RpTs K σ R H F tys ds vs f) (h : tys.all (kept c) = true) : All3 (RpO K R H c) ds vs f := by
  induction p with
  | nil => exact .nil
  | @cons t ts d ds v vs f g a b ih =>
    rw [List.all_cons, Bool.and_eq_true] at h
    refine .cons ?_ (ih h.2)
    have h1 := h.1
    cases t with
    | sc => exact RpT.sc_to (o := c) a
    | v o =>
      have e : o = c := of_decide_eq_true h1
      subst e
      exact a
    | pk i o => cases h1
    | rf i => cases h1
theorem inD_flat {x y : V} {d e : D} {p q : PyData} (hd : scal d = true) (he : scal e = true) (h1 : d.py = some p) (h2 : e.py = some q) (rx : Rep K R d x) (ry : Rep K R' e y) : flatV x = true ∧ flatV y = true ∧ eqV y x = PyData.eqv q p := by
  cases d <;> first
    | (cases hd; done)
    | (cases e <;> first
        | (cases he; done)
        | (cases h1; cases h2; rw [show x = _ from rx, show y = _ from ry]; exact ⟨rfl, rfl, rfl⟩))
theorem inD_flats {x : V} {d : D} {p : PyData} (hd : scal d = true) (h1 : d.py = some p) (rx : Rep K R d x) : ∀ {ds : List D} {qs : List PyData} {ys : List V}, ds.all scal = true → pyL ds = some qs → RepL K R' ds ys →
    ys.all flatV = true ∧ inV x ys = qs.any fun z => PyData.eqv z p
  | [], qs, ys, _, h2, q => by
    cases h2
    rw [show ys = [] from q]
    exact ⟨rfl, rfl⟩
  | e :: ds, qs, _, ha, h2, ⟨w, ws, rfl, a, b⟩ => by
    rw [List.all_cons, Bool.and_eq_true] at ha
    unfold pyL at h2
    split at h2
    · rename_i p1 ps1 e1 e2
      cases h2
      obtain ⟨i1, i2⟩ := inD_flats hd h1 rx ha.2 e2 b
      obtain ⟨j1, j2, j3⟩ := inD_flat hd ha.1 h1 e1 rx a
      refine ⟨by rw [List.all_cons, j2, i1]; rfl, ?_⟩
      have i2' : (ws.any fun y => eqV y x) = ps1.any fun z => PyData.eqv z p := i2
      show ((w :: ws).any fun y => eqV y x) = _
      rw [List.any_cons, List.any_cons, j3, i2']
    · cases h2
theorem inD_sem {a b : D} {x y : V} {c : Bool} (ha : Rep K H a x) (hb : Rep K H b y) (h : inD a b = some c) (neg : Bool) (q : Q (.bl (if neg then !c else c)) H) :
    (if neg then rNotInD K x y H Q else rInD K x y H Q) ∨ rIn K neg x y H Q := by
  unfold inD at h
  split at h
  · rename_i p ds e1
    split at h
    · rename_i qs e2
      split at h
      · rename_i s
        rw [Bool.and_eq_true] at s
        cases h
        have hl : Dp K H y (.list qs) := Rep.dp (.lst ds) y (.list qs) hb (by unfold D.py; rw [e2]; rfl)
        refine .inl ?_
        cases neg with
        | false => exact ⟨p, qs, Rep.dp _ _ _ ha e1, hl, s.1, s.2, q⟩
        | true => exact ⟨p, qs, Rep.dp _ _ _ ha e1, hl, s.1, s.2, q⟩
      · cases h
    · cases h
  · rename_i p ds e1
    split at h
    · rename_i qs e2
      split at h
      · rename_i s
        rw [Bool.and_eq_true] at s
        cases h
        obtain ⟨r, ys, rfl, hr, hl⟩ := hb
        obtain ⟨i1, i2⟩ := inD_flats s.1 e1 ha s.2 e2 hl
        have fx : flatV x = true := by
          have := s.1
          cases a <;> first
            | (cases this; done)
            | (rw [show x = _ from ha]; rfl)
        exact .inr ⟨r, ys, rfl, .inr (.inl (.inl hr)), fx, i1, by rw [i2]; exact q⟩
      · cases h
    · cases h
  · cases h
/-- a scalar comes out -/
theorem fin_sc (r : Rel K G σ st R H F) (hs : scal d = true) (hr : Rep K R d v) (hQ : ∀ v R2 H2 f2, OpPost R H f R2 H2 f2 → RpT K σ R2 H2 F .sc d v f2 → Q v H2) : Q v H :=
  hQ v R H [] (.refl r.sub) ⟨hs, hr, rfl⟩
theorem op_sc (r : Rel K G σ st R H F) (h : isSc o = true) (p : RepL K H ds vs) (hs : sem o ds = some d)
    (hQ : ∀ v R2 H2 f2, OpPost R H f R2 H2 f2 → RpT K σ R2 H2 F .sc d v f2 → Q v H2) : rOp K o vs H Q := by
  have fi : ∀ i, d = .int i → Q (.int i) H := fun i e => fin_sc r (by rw [e]; rfl) (by rw [e]; rfl) hQ
  have fb : ∀ i, d = .bl i → Q (.bl i) H := fun i e => fin_sc r (by rw [e]; rfl) (by rw [e]; rfl) hQ
  have fs : ∀ i, d = .str i → Q (.str i) H := fun i e => fin_sc r (by rw [e]; rfl) (by rw [e]; rfl) hQ
  unfold sem at hs
  split at hs
  all_goals try (cases h; done)
  all_goals first
    | (obtain ⟨x, _, rfl, a, rfl⟩ := p)
    | (obtain ⟨x, _, rfl, a, y, _, rfl, b, rfl⟩ := p)
    | (cases hs; done)
  · cases hs; cases a; exact ⟨_, rfl, fi _ rfl⟩
  · cases hs; cases a; exact ⟨_, rfl, fb _ rfl⟩
  · cases hs
    show Q (.bl (decide (x = .non))) H
    rw [rep_non _ a]
    exact fb _ rfl
  · cases hs
    show Q (.bl (!decide (x = .non))) H
    rw [rep_non _ a]
    exact fb _ rfl
  · cases hs; cases a; cases b; exact ⟨_, _, rfl, rfl, fi _ rfl⟩
  · split at hs
    · rename_i hl; cases hs; cases a; cases b; exact ⟨_, _, rfl, rfl, limL hl, fs _ rfl⟩
    · cases hs
  · cases hs; cases a; cases b; exact ⟨_, _, rfl, rfl, fi _ rfl⟩
  · split at hs
    · rename_i hl; cases hs; cases a; cases b; exact ⟨_, _, rfl, rfl, hl, fi _ rfl⟩
    · cases hs
  · split at hs
    · rename_i hl
      cases hs
      cases a
      cases b
      refine ⟨_, _, rfl, rfl, wide_div (b := 4000) hl.1 ?_ (by decide) (by decide), fi _ rfl⟩
      have h1 := hl.1
      have h2 := hl.2
      rename_i j
      have : ((j.natAbs : Nat) : Int) < ((2 ^ 4000 : Nat) : Int) := by
        rw [Int.natAbs_of_nonneg (by omega)]
        exact_mod_cast h2
      exact Int.ofNat_lt.mp this
    · cases hs
  · split at hs
    · rename_i hl; cases hs; cases a; cases b; exact ⟨_, _, rfl, rfl, hl, fi _ rfl⟩
    · cases hs
  · split at hs
    · rename_i hl; cases hs; cases a; cases b; exact ⟨_, _, rfl, rfl, hl, fi _ rfl⟩
    · cases hs
  · rename_i a' b'
    cases e : eqD a' b' with
    | none => rw [e] at hs; cases hs
    | some c =>
      rw [e] at hs
      cases hs
      obtain ⟨p, q, h1, h2, h3, h4, h5⟩ := eqD_dp a b e
      exact ⟨p, q, h1, h2, h3, h4, by rw [h5]; exact fb _ rfl⟩
  · rename_i a' b'
    cases e : eqD a' b' with
    | none => rw [e] at hs; cases hs
    | some c =>
      rw [e] at hs
      cases hs
      obtain ⟨p, q, h1, h2, h3, h4, h5⟩ := eqD_dp a b e
      exact ⟨p, q, h1, h2, h3, h4, by rw [h5]; exact fb _ rfl⟩
  · cases hs; cases a; cases b; exact ⟨_, _, rfl, rfl, fb _ rfl⟩
  · cases hs; cases a; cases b; exact ⟨_, _, rfl, rfl, fb _ rfl⟩
  · cases hs; cases a; cases b; exact ⟨_, _, rfl, rfl, fb _ rfl⟩
  · cases hs; cases a; cases b; exact ⟨_, _, rfl, rfl, fb _ rfl⟩
  · rename_i a' b'
    cases e : inD a' b' with
    | none => rw [e] at hs; cases hs
    | some c =>
      rw [e] at hs
      cases hs
      exact inD_sem a b e false (fb _ rfl)
  · rename_i a' b'
    cases e : inD a' b' with
    | none => rw [e] at hs; cases hs
    | some c =>
      rw [e] at hs
      cases hs
      exact inD_sem a b e true (fb _ rfl)
  · cases hs
    obtain ⟨q, ys, rfl, hq, hl⟩ := a
    exact ⟨_, _, rfl, .inl ⟨ys, .inl (.inl hq), rfl⟩, by rw [hl.length]; exact fi _ rfl⟩
  · cases hs
    obtain ⟨q, ys, rfl, hq, hl⟩ := a
    exact ⟨_, _, rfl, .inr ⟨ys, .inl (.inl hq), rfl⟩, by rw [hl.length]; exact fi _ rfl⟩
  · cases hs
    obtain ⟨q, rfl, hq⟩ := a
    exact ⟨_, _, rfl, .inl ⟨_, hq, rfl⟩, by rw [List.length_map]; exact fi _ rfl⟩
  · split at hs
    · rename_i hl
      cases hs
      cases a
      exact ⟨_, _, rfl, ⟨limL hl, rfl⟩, fi _ rfl⟩
    · cases hs
  · cases hs; cases a; exact ⟨_, rfl, fi _ rfl⟩
  · cases hs; cases a; cases b; exact ⟨_, _, rfl, fi _ rfl⟩
  · cases hs; cases a; cases b; exact ⟨_, _, rfl, fi _ rfl⟩
  · obtain ⟨q, ys, rfl, hq, hl⟩ := a
    rename_i xs
    cases e : boolsD xs with
    | none => rw [e] at hs; cases hs
    | some bs =>
      rw [e] at hs
      cases hs
      have := boolsD_rep e hl
      subst this
      exact ⟨q, bs, rfl, .inl (.inl hq), fb _ rfl⟩
  · cases hs; cases a; exact .inl ⟨_, rfl, fi _ rfl⟩
  · cases hs; cases a; exact .inr ⟨_, rfl, fi _ rfl⟩
  · cases hs
    obtain ⟨q, ys, rfl, hq, hl⟩ := a
    exact ⟨_, _, _, _, _, rfl, .ty "list", .base (.lst hq), kit_ty (by decide +kernel), fb _ rfl⟩
end
end Mini

/-! Mini, part 9: the operations that lay new objects. -/
namespace Mini
open PySem (Expr Stmt Operator CmpOp UnaryOp BoolOp Const Pos Scope NameKind Addr)
open PySem PyProof.Rows
open L2
section
variable {K : PySem.W.Frag} {G : Nat → O} {σ : L2.St} {st : Sl} {R H R2 H2 : Hp} {F : Nat → List Addr} {f f2 g : List Addr} {ty t : Ty} {d : D} {v : V} {tys : List Ty} {ds : List D} {vs : List V} {Q : VK} {o : Op} {p : Addr}
theorem fkL_fk {t : Ty} (h : fkL t = true) : fk t = true := by
  unfold fkL at h
  split at h <;> first | rfl | cases h
theorem finL (r : Rel K G σ st R H F) (hl : RepL K R ds vs) (hp : H p = none) (hQ : ∀ v R2 H2 f2, OpPost R H f R2 H2 f2 → RpT K σ R2 H2 F (.v (.lst .fz)) (.lst ds) v f2 → Q v H2) : Q (.ref p) (upd H p (.lst vs)) :=
  hQ (.ref p) R (upd H p (.lst vs)) [p] (.lst r.sub hp) (.inr ⟨ds, p, vs, [], rfl, rfl, upd_same, RepL.all3 hl, rfl⟩)
theorem finT (r : Rel K G σ st R H F) (hl : RepL K R ds vs) (hp : H p = none) (hQ : ∀ v R2 H2 f2, OpPost R H f R2 H2 f2 → RpT K σ R2 H2 F (.v .fz) (.tup ds) v f2 → Q v H2) : Q (.ref p) (upd H p (.tup vs)) :=
  hQ (.ref p) (upd R p (.tup vs)) (upd H p (.tup vs)) [] (.fzd r.sub hp) ⟨⟨p, vs, rfl, upd_same, RepL.mono (Sub.upd (r.sub.none hp)) _ _ hl⟩, rfl⟩
/-- a new object over trees that go with it -/
theorem OpPost.over {o : HO} (s : Sub R H) (h : H p = none) (nd : f.Nodup) (off : ∀ a ∈ f, R a = none) (dm : ∀ a ∈ f, ∃ u, H a = some u) : OpPost R H f R (upd H p o) (p :: f) := by
  refine ⟨Sub.refl R, Sub.upd h, fun _ _ h => .inl h, s.trans (Sub.upd h), fun a ha => ?_, List.nodup_cons.mpr ⟨fun hp => ?_, nd⟩, fun a ha => ?_⟩
  · rcases List.mem_cons.mp ha with rfl | ha
    · exact .inr h
    · exact .inl ha
  · obtain ⟨u, e⟩ := dm p hp
    rw [h] at e
    cases e
  · rcases List.mem_cons.mp ha with rfl | ha
    · exact s.none h
    · exact off a ha
theorem RepL.at : ∀ {ds : List D} {vs : List V} {i : Int} {d : D}, RepL K R ds vs → atI ds i = some d → ∃ v, atI vs i = some v ∧ Rep K R d v := by
  intro ds vs i d h e
  unfold atI at e ⊢
  rw [h.length]
  cases e2 : ixN ds.length i with
  | none => rw [e2] at e; cases e
  | some j =>
    rw [e2] at e
    exact RepL.get h e
theorem All3.get {P : D → V → List Addr → Prop} (h : All3 P ds vs g) : ∀ {j : Nat} {d : D}, ds[j]? = some d → ∃ v f, vs[j]? = some v ∧ P d v f ∧ ∀ a ∈ f, a ∈ g := by
  induction h with
  | nil =>
    intro j d e
    simp at e
  | cons a b ih =>
    intro j d e
    cases j with
    | zero =>
      simp at e
      subst e
      exact ⟨_, _, rfl, a, fun x hx => List.mem_append_left _ hx⟩
    | succ j =>
      obtain ⟨v, f, h1, h2, h3⟩ := ih (j := j) (d := d) (by simpa using e)
      exact ⟨v, f, by simpa using h1, h2, fun x hx => List.mem_append_right _ (h3 x hx)⟩
theorem All3.at {P : D → V → List Addr → Prop} {i : Int} (h : All3 P ds vs g) (e : atI ds i = some d) : ∃ v f, atI vs i = some v ∧ P d v f ∧ ∀ a ∈ f, a ∈ g := by
  unfold atI at e ⊢
  rw [h.length]
  cases e2 : ixN ds.length i with
  | none => rw [e2] at e; cases e
  | some j =>
    rw [e2] at e
    exact All3.get h e
theorem atI_map {α β : Type} (g : α → β) {xs : List α} {i : Int} {x : α} (h : atI xs i = some x) : atI (xs.map g) i = some (g x) := by
  unfold atI at h ⊢
  rw [List.length_map]
  cases e2 : ixN xs.length i with
  | none => rw [e2] at h; cases h
  | some j =>
    rw [e2] at h
    have h' : xs[j]? = some x := h
    show (xs.map g)[j]? = some (g x)
    rw [List.getElem?_map, h']
    rfl
theorem RepL.cut {lo hi : Option Int} (h : RepL K R ds vs) : RepL K R (cutD ds lo hi) (cutV vs lo hi) := by
  unfold cutD cutV
  rw [h.length]
  exact RepL.take _ (RepL.drop _ h)
theorem rng_rep : ∀ (n : Int), RepL K R ((List.range n.toNat).map fun (k : Nat) => D.int (k : Int)) (rgV 0 n) := by
  intro n
  unfold rgV
  have e : (n - 0).toNat = n.toNat := by rw [Int.sub_zero]
  rw [e]
  have key : ∀ l : List Nat, RepL K R (l.map fun (k : Nat) => D.int (k : Int)) (l.map fun (i : Nat) => V.int (0 + (i : Nat))) := by
    intro l
    induction l with
    | nil => exact rfl
    | cons a l ih => exact ⟨_, _, rfl, by show V.int (0 + (a : Int)) = V.int (a : Int); rw [Int.zero_add], ih⟩
  exact key _
/-- an item of a shared list or tuple, of the script -/
theorem ix_fz {x y : V} {dx dy : D} (r : Rel K G σ st R H F) (a : Rep K R dx x) (b : Rep K H dy y) (hs : semIx dx dy = some d) (hQ : ∀ v, Rep K R d v → Q v H) : rIx K x y H Q := by
  unfold semIx at hs
  split at hs
  · obtain ⟨p, vs, rfl, hp, hl⟩ := a
    obtain ⟨v, h1, h2⟩ := RepL.at hl hs
    exact .inl ⟨p, vs, _, v, rfl, b, .inl (.inl (r.sub _ _ hp)), h1, hQ v h2⟩
  · obtain ⟨p, vs, rfl, hp, hl⟩ := a
    obtain ⟨v, h1, h2⟩ := RepL.at hl hs
    exact .inr (.inl ⟨p, vs, _, v, rfl, b, .inl (.inl (r.sub _ _ hp)), h1, hQ v h2⟩)
  · obtain ⟨p, rfl, hp⟩ := a
    rename_i ns i
    cases e : atI ns i with
    | none => rw [e] at hs; cases hs
    | some n =>
      rw [e] at hs
      cases hs
      exact .inl ⟨p, _, _, _, rfl, b, SqL.sub r.sub hp, atI_map V.int e, hQ _ rfl⟩
  · cases hs
theorem ix_own {c : O} {x y : V} {dx dy : D} (r : Rel K G σ st R H F) (a : RpO K R H (.lst c) dx x f) (b : Rep K H dy y) (hs : semIx dx dy = some d) (hQ : ∀ v g, RpO K R H c d v g → (∀ a ∈ g, a ∈ f) → Q v H) : rIx K x y H Q := by
  rcases a with ⟨e, a, rfl⟩ | ⟨ds, p, vs, g, rfl, rfl, hp, hl, rfl⟩
  · unfold semIx at hs
    split at hs
    · cases e
    · cases e
    · cases e
    · cases hs
  · unfold semIx at hs
    split at hs
    · rename_i e
      cases e
      obtain ⟨v, f, h1, h2, h3⟩ := All3.at hl hs
      exact .inl ⟨p, vs, _, v, rfl, b, .inl (.inl hp), h1, hQ v f h2 fun z hz => List.mem_cons_of_mem _ (h3 z hz)⟩
    · rename_i e; cases e
    · rename_i e; cases e
    · cases hs
theorem ix_ownT {x y : V} {dx dy : D} (r : Rel K G σ st R H F) (a : RpO K R H (.tup .fz) dx x f) (b : Rep K H dy y) (hs : semIx dx dy = some d) (hQ : ∀ v, Rep K R d v → Q v H) : rIx K x y H Q := by
  rcases a with ⟨e, a, rfl⟩ | ⟨ds, p, vs, g, rfl, rfl, hp, hl, rfl⟩
  · unfold semIx at hs
    split at hs
    · cases e
    · cases e
    · cases e
    · cases hs
  · unfold semIx at hs
    split at hs
    · rename_i e; cases e
    · rename_i e
      cases e
      obtain ⟨v, h1, h2⟩ := RepL.at hl.fz.1 hs
      exact .inr (.inl ⟨p, vs, _, v, rfl, b, .inl (.inl hp), h1, hQ v h2⟩)
    · rename_i e; cases e
    · cases hs
theorem sort_sem {x : V} {xs ys : List D} (r : Rel K G σ st R H F) (h : fk t = true) (p : RpT K σ R H F t (.lst xs) x g) (hs : sortD xs = some ys)
    (hQ : ∀ v R2 H2 f2, OpPost R H f R2 H2 f2 → RpT K σ R2 H2 F (.v (.lst .fz)) (.lst ys) v f2 → Q v H2) : rSortedI K [x] H Q ∨ rSortedPO K [x] H Q := by
  obtain ⟨q, vs, rfl, hq, hl⟩ := fk_lst r h p
  unfold sortD at hs
  split at hs
  · rename_i ns e
    cases hs
    have e2 := intsD_rep e hl
    subst e2
    refine .inl ⟨q, ns, rfl, .inl (.inl hq), fun ns' p hp hw hn => finL r ?_ hn hQ⟩
    have e3 : ns' = isort leI ns := by
      refine sort_uniq (le := leI) leI_as _ _ (hp.trans (isort_perm leI ns).symm) (hw.imp fun h => ?_) (isort_pw leI_tot leI_tr ns)
      unfold leI
      exact decide_eq_true h
    rw [e3]
    exact ints_rep _
  · split at hs
    · rename_i ps e
      cases hs
      obtain ⟨h1, h2⟩ := pairsD_rep e hl
      refine .inr ⟨q, vs, kOf R, rfl, .inl (.inl hq), fun x hx => ?_, fun ys' p hs hb hn => finL r ?_ hn hQ⟩
      · obtain ⟨t, e1, e2⟩ := h2 x hx
        exact ⟨t, e1, r.sub _ _ e2⟩
      · have e3 : ys'.map (kOf R) = isort leP ps := by
          refine sort_uniq (le := leP) leP_as _ _ ((hb.perm.map (kOf R)).trans (h1 ▸ (isort_perm leP ps).symm)) (List.pairwise_map.mpr (hs.imp fun {a b} h => ?_)) (isort_pw leP_tot leP_tr ps)
          have hl : SrtO.lexB (kOf R b) (kOf R a) = false := h
          have hn : ¬ ((kOf R b).1 < (kOf R a).1 ∨ ((kOf R b).1 = (kOf R a).1 ∧ (kOf R b).2 < (kOf R a).2)) := fun z => by
            rw [SrtO.lexB_iff.mpr z] at hl
            cases hl
          unfold leP
          simp only [Bool.or_eq_true, Bool.and_eq_true, decide_eq_true_eq]
          omega
        rw [← e3]
        exact kOf_rep ys' fun x hx => h2 x (hb.perm.mem_iff.mp hx)
    · cases hs
theorem op_sem (r : Rel K G σ st R H F) (p : RpTs K σ R H F tys ds vs f) (nd : f.Nodup) (off : ∀ a ∈ f, R a = none) (ht : tyOp o tys = some ty) (hs : sem o ds = some d)
    (hQ : ∀ v R2 H2 f2, OpPost R H f R2 H2 f2 → RpT K σ R2 H2 F ty d v f2 → Q v H2) : rOp K o vs H Q := by
  cases hsc : isSc o with
  | true =>
    obtain ⟨rfl, ha⟩ := tyOp_sc hsc ht
    exact op_sc r hsc (p.rep r ha) hs hQ
  | false =>
    have fz : ∀ {d : D}, (∀ v R2 H2 f2, OpPost R H f R2 H2 f2 → RpT K σ R2 H2 F (.v .fz) d v f2 → Q v H2) → ∀ v, Rep K R d v → Q v H := fun hQ v hv => hQ v R H [] (.refl r.sub) ⟨hv, rfl⟩
    have srR : ∀ {t : Ty} {d : D} {v : V} {g : List Addr}, RpT K σ R H F t d v g → sr t = true → Rep K H d v := fun a h => a.rep r fun i e => by
      rw [e] at h
      cases h
    unfold sem at hs
    split at hs
    all_goals try (cases hsc; done)
    · -- cat
      split at hs
      · rename_i hl
        cases hs
        obtain ⟨t, u, rfl⟩ := p.tys2
        obtain ⟨x, y, g1, g2, rfl, a, b, _⟩ := p.two
        have ht' : (if (fk t && fk u) = true then some (Ty.v (.lst .fz)) else none) = some ty := ht
        split at ht'
        · rename_i hk
          cases ht'
          rw [Bool.and_eq_true] at hk
          obtain ⟨q1, v1, rfl, h1, l1⟩ := fk_lst r hk.1 a
          obtain ⟨q2, v2, rfl, h2, l2⟩ := fk_lst r hk.2 b
          exact ⟨q1, q2, v1, v2, rfl, rfl, h1, h2, by rw [l1.length, l2.length]; exact limL hl, fun p hp => finL r (l1.append l2) hp hQ⟩
        · cases ht'
      · cases hs
    · -- catT
      rename_i xs ys
      split at hs
      · rename_i hl
        cases hs
        obtain ⟨t, u, rfl⟩ := p.tys2
        obtain ⟨x, y, g1, g2, rfl, a, b, _⟩ := p.two
        cases t with
        | v o =>
          cases o with
          | fz =>
            have ht' : (if fk u = true then some (Ty.v .fz) else none) = some ty := ht
            split at ht'
            · rename_i hk
              cases ht'
              obtain ⟨⟨q1, v1, rfl, h1, l1⟩, _⟩ := a
              obtain ⟨q2, v2, rfl, h2, l2⟩ := fk_tup r hk b
              refine ⟨q1, q2, v1, v2, rfl, rfl, .inl (.inl (r.sub _ _ h1)), .inl (.inl h2), fun e => ?_, by rw [l1.length, l2.length]; exact limL hl.2, fun e => ?_, fun e p hp => finT r (l1.append l2) hp hQ⟩
              · have h0 := l1.length
                rw [e] at h0
                exact hl.1 (List.length_eq_zero_iff.mp h0.symm)
              · have h0 := l2.length
                rw [e] at h0
                have e2 : ys = [] := List.length_eq_zero_iff.mp h0.symm
                subst e2
                rw [List.append_nil] at hQ
                exact fz hQ _ ⟨q1, v1, rfl, h1, l1⟩
            · cases ht'
          | _ => cases ht
        | _ => cases ht
      · cases hs
    · -- rep
      split at hs
      · rename_i hl
        cases hs
        obtain ⟨t, u, rfl⟩ := p.tys2
        obtain ⟨x, y, g1, g2, rfl, a, b, _⟩ := p.two
        have ht' : (if (fk t && sr u) = true then some (Ty.v (.lst .fz)) else none) = some ty := ht
        split at ht'
        · rename_i hk
          cases ht'
          rw [Bool.and_eq_true] at hk
          obtain ⟨q1, v1, rfl, h1, l1⟩ := fk_lst r hk.1 a
          exact ⟨q1, _, v1, rfl, srR b hk.2, h1, hl.1, hl.2.1, by rw [l1.length]; exact limL hl.2.2, fun p hp => finL r (l1.replicate _) hp hQ⟩
        · cases ht'
      · cases hs
    · -- ix
      obtain ⟨t, u, rfl⟩ := p.tys2
      obtain ⟨x, y, g1, g2, rfl, a, b, _⟩ := p.two
      have iff_ : ∀ {c : Bool} {s : Ty}, (if c = true then some s else none) = some ty → c = true ∧ s = ty := fun {c s} h => by
        cases c with
        | true => exact ⟨rfl, Option.some.inj h⟩
        | false => cases h
      cases t with
      | v o =>
        cases o with
        | fz =>
          obtain ⟨hk, rfl⟩ := iff_ ht
          exact ix_fz r a.1 (srR b hk) hs (fz hQ)
        | lst c =>
          cases c with
          | fz =>
            obtain ⟨hk, rfl⟩ := iff_ ht
            exact ix_own r a (srR b hk) hs fun v g hv _ => fz hQ v hv.1
          | _ => cases ht
        | tup c =>
          cases c with
          | fz =>
            obtain ⟨hk, rfl⟩ := iff_ ht
            exact ix_ownT r a (srR b hk) hs (fz hQ)
          | _ => cases ht
      | pk i o =>
        cases o with
        | lst c =>
          cases c with
          | fz =>
            obtain ⟨hk, rfl⟩ := iff_ ht
            obtain ⟨_, g, a, _⟩ := a
            exact ix_own r a (srR b hk) hs fun v g hv _ => fz hQ v hv.1
          | lst c =>
            obtain ⟨hk, rfl⟩ := iff_ ht
            obtain ⟨_, g, a, hg⟩ := a
            exact ix_own r a (srR b hk) hs fun v g2 hv hi => hQ v R H [] (.refl r.sub) ⟨rfl, g2, hv, fun z hz => hg z (hi z hz)⟩
          | _ => cases ht
        | _ => cases ht
      | _ => cases ht
    · -- sl
      cases p with
      | @cons t ts _ ds v vs f g a b =>
        have ht' : (if (fk t && ts.all sr) = true then some (Ty.v (.lst .fz)) else none) = some ty := ht
        split at ht'
        · rename_i lo hi e hk
          cases ht'
          rw [Bool.and_eq_true] at hk
          have rb := b.rep r hk.2
          unfold semSl at hs
          split at hs
          · rename_i lo' hi' e2
            cases hs
            obtain ⟨q, us, rfl, hq, hl⟩ := fk_lst r hk.1 a
            unfold partD at e2
            split at e2
            · cases e2
              have e3 : vs = [] := rb
              subst e3
              exact ⟨q, us, rfl, .inl (.inl hq), fun p hp => finL r (RepL.cut hl) hp hQ⟩
            · cases e2
              obtain ⟨w, _, rfl, rw_, rfl⟩ := rb
              exact ⟨_, rw_, q, us, rfl, .inl (.inl hq), fun p hp => finL r (RepL.cut hl) hp hQ⟩
            · cases e2
              obtain ⟨w, _, rfl, rw_, rfl⟩ := rb
              exact ⟨_, rw_, q, us, rfl, .inl (.inl hq), fun p hp => finL r (RepL.cut hl) hp hQ⟩
            · cases e2
          · cases hs
        · cases ht'
    · -- mkT
      split at hs
      · rename_i c hl
        cases hs
        have ht' : (if (tys.all (kept c)) = true then some (Ty.v (tupO c)) else none) = some ty := ht
        split at ht'
        · rename_i hk
          cases ht'
          have pk := p.kept hk
          refine ⟨by rw [p.length]; exact limL hl, fun q hq => ?_⟩
          cases c with
          | fz => exact finT r pk.fz.1 hq hQ
          | lst c => exact hQ _ R _ (q :: f) (.over r.sub hq nd off p.dom) (.inr ⟨ds, q, vs, f, rfl, rfl, upd_same, pk.imp fun d v g _ h => RpO.stay (Sub.refl R) _ d v g h fun a ha u e => Sub.upd hq a u e, rfl⟩)
          | tup c => exact hQ _ R _ (q :: f) (.over r.sub hq nd off p.dom) (.inr ⟨ds, q, vs, f, rfl, rfl, upd_same, pk.imp fun d v g _ h => RpO.stay (Sub.refl R) _ d v g h fun a ha u e => Sub.upd hq a u e, rfl⟩)
        · cases ht'
      · cases hs
    · -- mkL
      split at hs
      · rename_i c hl
        cases hs
        have ht' : (if (tys.all (kept c)) = true then some (Ty.v (.lst c)) else none) = some ty := ht
        split at ht'
        · rename_i hk
          cases ht'
          have pk := p.kept hk
          refine ⟨by rw [p.length]; exact limL hl, fun q hq => ?_⟩
          exact hQ _ R _ (q :: f) (.over r.sub hq nd off p.dom) (.inr ⟨ds, q, vs, f, rfl, rfl, upd_same, pk.imp fun d v g _ h => RpO.stay (Sub.refl R) _ d v g h fun a ha u e => Sub.upd hq a u e, rfl⟩)
        · cases ht'
      · cases hs
    · -- tuple of a list
      cases hs
      obtain ⟨t, rfl⟩ := p.tys1
      obtain ⟨v, rfl, a⟩ := p.one
      have ht' : (if fkL t = true then some (Ty.v .fz) else none) = some ty := ht
      split at ht'
      · rename_i hk
        cases ht'
        obtain ⟨q, us, rfl, hq, hl⟩ := fk_lst r (fkL_fk hk) a
        exact ⟨q, us, rfl, .inl ⟨.inl (.inl hq), fun l hn => finT r hl hn hQ⟩⟩
      · cases ht'
    · -- tuple of a tuple
      cases hs
      obtain ⟨t, rfl⟩ := p.tys1
      obtain ⟨v, rfl, a⟩ := p.one
      have ht' : (if fkL t = true then some (Ty.v .fz) else none) = some ty := ht
      split at ht'
      · rename_i hk
        cases ht'
        unfold fkL at hk
        split at hk
        · obtain ⟨⟨q, us, rfl, hq, hl⟩, _⟩ := a
          exact ⟨q, us, rfl, .inr ⟨.inl (.inl (r.sub _ _ hq)), fz hQ _ ⟨q, us, rfl, hq, hl⟩⟩⟩
        · rcases a with ⟨e, _⟩ | ⟨_, _, _, _, e, _⟩ <;> cases e
        · obtain ⟨_, g, a, _⟩ := a
          rcases a with ⟨e, _⟩ | ⟨_, _, _, _, e, _⟩ <;> cases e
        · cases hk
      · cases ht'
    · -- list of a list
      cases hs
      obtain ⟨t, rfl⟩ := p.tys1
      obtain ⟨v, rfl, a⟩ := p.one
      have ht' : (if fk t = true then some (Ty.v (.lst .fz)) else none) = some ty := ht
      split at ht'
      · rename_i hk
        cases ht'
        obtain ⟨q, us, rfl, hq, hl⟩ := fk_lst r hk a
        exact ⟨q, us, rfl, .inl (.inl (.inl hq)), fun l hn => finL r hl hn hQ⟩
      · cases ht'
    · -- list of a tuple
      cases hs
      obtain ⟨t, rfl⟩ := p.tys1
      obtain ⟨v, rfl, a⟩ := p.one
      have ht' : (if fk t = true then some (Ty.v (.lst .fz)) else none) = some ty := ht
      split at ht'
      · rename_i hk
        cases ht'
        obtain ⟨q, us, rfl, hq, hl⟩ := fk_tup r hk a
        exact ⟨q, us, rfl, .inr (.inl (.inl hq)), fun l hn => finL r hl hn hQ⟩
      · cases ht'
    · -- sorted
      rename_i xs
      obtain ⟨t, rfl⟩ := p.tys1
      obtain ⟨v, rfl, a⟩ := p.one
      have ht' : (if fk t = true then some (Ty.v (.lst .fz)) else none) = some ty := ht
      split at ht'
      · rename_i hk
        cases ht'
        cases e : sortD xs with
        | none => rw [e] at hs; cases hs
        | some ys =>
          rw [e] at hs
          cases hs
          exact sort_sem r hk a e hQ
      · cases ht'
    · -- list of a range
      split at hs
      · rename_i hl
        cases hs
        obtain ⟨t, rfl⟩ := p.tys1
        obtain ⟨v, rfl, a⟩ := p.one
        have ht' : (if sr t = true then some (Ty.v (.lst .fz)) else none) = some ty := ht
        split at ht'
        · rename_i hk
          cases ht'
          have h1 := hl.1
          have h2 : _ ≤ (1000000 : Int) := hl.2
          exact ⟨_, srR a hk, ⟨by omega, by omega, by omega, by omega, by omega⟩, fun q hq => finL r (rng_rep _) hq hQ⟩
        · cases ht'
      · cases hs
    · cases hs
end
end Mini

/-! Mini, part 10: calls of the text's own defs. -/
namespace Mini
open PySem (Expr Stmt Operator CmpOp UnaryOp BoolOp Const Pos Scope NameKind Addr)
open PySem PyProof.Rows
open L2
def gf (fd : FD) : Nat → O := fun i => fd.G.getD i .fz
/-- what a def promises, by its run cl -/
def spF (K : PySem.W.Frag) (cl : Nat → List D → CO) (cls : Nat → Value) (fd : FD) (f : Nat) : Sp := fun vs H Q E => vs.length = fd.np ∧ ∃ (ds : List D) (R : Hp) (F : Nat → List Addr), ds.length = fd.np ∧
  Rel K (gf fd) (vs.map some) (ds.map some) R H F ∧ (match cl f ds with
    | .ok d os => ∀ v R' F' H' g, Rel K (gf fd) (vs.map some) os R' H' F' → RpO K R' H' fd.ret d v g → Stp (List.range fd.np) R F H R' F' H' g → Q v H'
    | .exc c os => ∀ R' F' H', Rel K (gf fd) (vs.map some) os R' H' F' → Stp (List.range fd.np) R F H R' F' H' [] → E (cls c) none H'
    | .bad => False)
/-- the arguments at the call: the own trees of the values -/
inductive CA (K : PySem.W.Frag) (σ : L2.St) (st : Sl) (R H : Hp) (F : Nat → List Addr) : List O → List (Option Nat) → List D → List V → List (List Addr) → List Addr → Prop where
  | nil : CA K σ st R H F [] [] [] [] [] []
  | ref {o : O} {os : List O} {j : Nat} {rs : List (Option Nat)} {d : D} {ds : List D} {v : V} {vs : List V} {Fs : List (List Addr)} {f : List Addr} : Mini.get st j = some d → σ[j]? = some (some v) → RpO K R H o d v (F j) →
      CA K σ st R H F os rs ds vs Fs f → CA K σ st R H F (o :: os) (some j :: rs) (d :: ds) (v :: vs) (F j :: Fs) f
  | val {o : O} {os : List O} {rs : List (Option Nat)} {d : D} {ds : List D} {v : V} {vs : List V} {Fs : List (List Addr)} {f g : List Addr} : RpO K R H o d v g →
      CA K σ st R H F os rs ds vs Fs f → CA K σ st R H F (o :: os) (none :: rs) (d :: ds) (v :: vs) (g :: Fs) (g ++ f)
section
variable {K : PySem.W.Frag} {G : Nat → O} {σ : L2.St} {st : Sl} {R H R' H' : Hp} {F Fc' : Nat → List Addr} {f g : List Addr} {tys : List Ty} {ds ds1 : List D} {vs : List V} {os : List O} {rs : List (Option Nat)} {Fs : List (List Addr)}
theorem CA.vlen (c : CA K σ st R H F os rs ds vs Fs f) : vs.length = os.length ∧ ds.length = os.length ∧ Fs.length = os.length ∧ rs.length = os.length := by
  induction c with
  | nil => exact ⟨rfl, rfl, rfl, rfl⟩
  | ref _ _ _ _ ih => simp [ih]
  | val _ _ ih => simp [ih]
theorem CA.at (c : CA K σ st R H F os rs ds vs Fs f) : ∀ {i : Nat} {d : D}, ds[i]? = some d → ∃ v, vs[i]? = some v ∧ RpO K R H (os.getD i .fz) d v (Fs.getD i []) := by
  induction c with
  | nil =>
    intro i d h
    simp at h
  | ref h1 h2 h3 _ ih =>
    intro i d h
    cases i with
    | zero =>
      simp at h
      subst h
      exact ⟨_, rfl, h3⟩
    | succ i =>
      obtain ⟨v, a, b⟩ := ih (i := i) (d := d) (by simpa using h)
      exact ⟨v, by simpa using a, by simpa using b⟩
  | val h3 _ ih =>
    intro i d h
    cases i with
    | zero =>
      simp at h
      subst h
      exact ⟨_, rfl, h3⟩
    | succ i =>
      obtain ⟨v, a, b⟩ := ih (i := i) (d := d) (by simpa using h)
      exact ⟨v, by simpa using a, by simpa using b⟩
/-- where an argument's tree comes from -/
theorem CA.src (c : CA K σ st R H F os rs ds vs Fs f) : ∀ {i : Nat} {a : Addr}, a ∈ Fs.getD i [] → (∃ j, rs[i]? = some (some j) ∧ a ∈ F j ∧ Fs.getD i [] = F j) ∨ (rs[i]? = some none ∧ a ∈ f) := by
  induction c with
  | nil =>
    intro i a h
    simp at h
  | @ref o os j rs d ds v vs Fs f h1 h2 h3 _ ih =>
    intro i a h
    cases i with
    | zero => exact .inl ⟨j, rfl, h, rfl⟩
    | succ i =>
      have h' : a ∈ Fs.getD i [] := by simpa using h
      rcases ih h' with ⟨j, a1, a2, a3⟩ | ⟨a1, a2⟩
      · exact .inl ⟨j, by simpa using a1, a2, by simpa using a3⟩
      · exact .inr ⟨by simpa using a1, a2⟩
  | @val o os rs d ds v vs Fs f g h3 _ ih =>
    intro i a h
    cases i with
    | zero => exact .inr ⟨rfl, List.mem_append_left _ h⟩
    | succ i =>
      have h' : a ∈ Fs.getD i [] := by simpa using h
      rcases ih h' with ⟨j, a1, a2, a3⟩ | ⟨a1, a2⟩
      · exact .inl ⟨j, by simpa using a1, a2, by simpa using a3⟩
      · exact .inr ⟨by simpa using a1, List.mem_append_right _ a2⟩
theorem mem_refL : ∀ {rs : List (Option Nat)} {i j : Nat}, rs[i]? = some (some j) → j ∈ refL rs
  | [], _, _, h => by simp at h
  | some k :: rs, 0, j, h => by
    simp at h
    subst h
    exact List.mem_cons_self
  | some k :: rs, i + 1, j, h => List.mem_cons_of_mem _ (mem_refL (rs := rs) (i := i) (by simpa using h))
  | none :: rs, 0, j, h => by simp at h
  | none :: rs, i + 1, j, h => mem_refL (rs := rs) (i := i) (by simpa using h)
theorem of_refL : ∀ {rs : List (Option Nat)} {j : Nat}, j ∈ refL rs → ∃ i : Nat, rs[i]? = some (some j)
  | [], _, h => nomatch h
  | some k :: rs, j, h => by
    rcases List.mem_cons.mp h with rfl | h
    · exact ⟨0, rfl⟩
    · obtain ⟨i, e⟩ := of_refL h
      exact ⟨i + 1, by simpa using e⟩
  | none :: rs, j, h => by
    obtain ⟨i, e⟩ := of_refL (rs := rs) h
    exact ⟨i + 1, by simpa using e⟩
theorem distinct_ref : ∀ {rs : List (Option Nat)}, distinct (refL rs) = true → ∀ {i k j : Nat}, rs[i]? = some (some j) → rs[k]? = some (some j) → i = k
  | [], _, _, _, _, h, _ => by simp at h
  | some m :: rs, hd, i, k, j, h1, h2 => by
    have hd' : (!(refL rs).contains m && distinct (refL rs)) = true := hd
    rw [Bool.and_eq_true] at hd'
    have nm : m ∉ refL rs := by
      have := hd'.1
      simpa using this
    cases i with
    | zero =>
      simp at h1
      subst h1
      cases k with
      | zero => rfl
      | succ k => exact absurd (mem_refL (rs := rs) (i := k) (by simpa using h2)) nm
    | succ i =>
      cases k with
      | zero =>
        simp at h2
        subst h2
        exact absurd (mem_refL (rs := rs) (i := i) (by simpa using h1)) nm
      | succ k => rw [distinct_ref (rs := rs) hd'.2 (i := i) (k := k) (j := j) (by simpa using h1) (by simpa using h2)]
  | none :: rs, hd, i, k, j, h1, h2 => by
    cases i with
    | zero => simp at h1
    | succ i =>
      cases k with
      | zero => simp at h2
      | succ k => rw [distinct_ref (rs := rs) hd (i := i) (k := k) (j := j) (by simpa using h1) (by simpa using h2)]
/-- the values' own trees stand apart -/
theorem CA.apart (c : CA K σ st R H F os rs ds vs Fs f) (nd : f.Nodup) : ∀ {i k : Nat} {a : Addr}, rs[i]? = some none → rs[k]? = some none → a ∈ Fs.getD i [] → a ∈ Fs.getD k [] → i = k := by
  induction c with
  | nil =>
    intro i k a h
    simp at h
  | ref h1 h2 h3 _ ih =>
    intro i k a h1 h2 h3 h4
    cases i with
    | zero => simp at h1
    | succ i =>
      cases k with
      | zero => simp at h2
      | succ k => rw [ih nd (i := i) (k := k) (a := a) (by simpa using h1) (by simpa using h2) (by simpa using h3) (by simpa using h4)]
  | @val o os rs d ds v vs Fs f g q c ih =>
    intro i k a h1 h2 h3 h4
    obtain ⟨n1, n2, n3⟩ := List.nodup_append.mp nd
    have inF : ∀ {i : Nat}, rs[i]? = some none → a ∈ Fs.getD i [] → a ∈ f := fun {i} e m => by
      rcases c.src m with ⟨j, e2, _⟩ | ⟨_, z⟩
      · rw [e] at e2
        cases e2
      · exact z
    cases i with
    | zero =>
      cases k with
      | zero => rfl
      | succ k => exact absurd rfl (n3 a h3 a (inF (by simpa using h2) (by simpa using h4)))
    | succ i =>
      cases k with
      | zero => exact absurd rfl (n3 a h4 a (inF (by simpa using h1) (by simpa using h3)))
      | succ k => rw [ih n2 (i := i) (k := k) (a := a) (by simpa using h1) (by simpa using h2) (by simpa using h3) (by simpa using h4)]
theorem CA.ndAt (c : CA K σ st R H F os rs ds vs Fs f) (nd : f.Nodup) (nF : ∀ j, (F j).Nodup) : ∀ i, (Fs.getD i []).Nodup := by
  induction c with
  | nil =>
    intro i
    simp
  | @ref o os j rs d ds v vs Fs f h1 h2 h3 _ ih =>
    intro i
    cases i with
    | zero => exact nF j
    | succ i => simpa using ih nd i
  | val q c ih =>
    intro i
    obtain ⟨n1, n2, n3⟩ := List.nodup_append.mp nd
    cases i with
    | zero => exact n1
    | succ i => simpa using ih n2 i
/-- the state at the callee's entry -/
theorem CA.rel (c : CA K σ st R H F os rs ds vs Fs f) (r : Rel K G σ st R H F) (hd : distinct (refL rs) = true) (nd : f.Nodup) (ap : ∀ a ∈ f, ∀ i, a ∉ F i) (off : ∀ a ∈ f, R a = none) (Gc : Nat → O) (hG : ∀ i, i < os.length → Gc i = os.getD i .fz) :
    Rel K Gc (vs.map some) (ds.map some) R H (fun i => Fs.getD i []) := by
  obtain ⟨l1, l2, l3, l4⟩ := c.vlen
  have gd : ∀ {l : List D} {i : Nat} {d : D}, Mini.get (l.map some) i = some d → l[i]? = some d := by
    intro l
    induction l with
    | nil => intro i d h; cases h
    | cons a l ih =>
      intro i d h
      cases i with
      | zero => simpa [Mini.get] using h
      | succ i => simpa using ih (i := i) (d := d) h
  have gn : ∀ {l : List D} {i : Nat}, Mini.get (l.map some) i = none → l.length ≤ i := by
    intro l
    induction l with
    | nil => intro i h; exact Nat.zero_le _
    | cons a l ih =>
      intro i h
      cases i with
      | zero => cases h
      | succ i => exact Nat.succ_le_succ (ih (i := i) h)
  refine ⟨by rw [List.length_map, List.length_map, l1, l2], fun i d h => ?_, fun i h => ?_, fun i => c.ndAt nd r.nd i, fun i k a h1 h2 => ?_, r.sub, fun i a h => ?_⟩
  · have hi := gd h
    obtain ⟨v, h1, h2⟩ := c.at hi
    have lt : i < os.length := by
      rw [← l2]
      exact (List.getElem?_eq_some_iff.mp hi).1
    refine ⟨v, by rw [List.getElem?_map, h1]; rfl, ?_⟩
    rw [hG i lt]
    exact h2
  · have := gn h
    show Fs.getD i [] = []
    rw [List.getD_eq_getElem?_getD, List.getElem?_eq_none (by omega)]
    rfl
  · rcases c.src h1 with ⟨j, e1, m1, _⟩ | ⟨e1, m1⟩
    · rcases c.src h2 with ⟨j2, e2, m2, _⟩ | ⟨e2, m2⟩
      · have := r.dj _ _ _ m1 m2
        subst this
        exact distinct_ref hd e1 e2
      · exact absurd m1 (ap a m2 j)
    · rcases c.src h2 with ⟨j2, e2, m2, _⟩ | ⟨e2, m2⟩
      · exact absurd m2 (ap a m1 j2)
      · exact c.apart nd e1 e2 h1 h2
  · rcases c.src h with ⟨j, e1, m1, _⟩ | ⟨e1, m1⟩
    · exact r.off j a m1
    · exact off a m1
end
end Mini

/-! Mini, part 11: behind a call. -/
namespace Mini
open PySem (Expr Stmt Operator CmpOp UnaryOp BoolOp Const Pos Scope NameKind Addr)
open PySem PyProof.Rows
open L2
def ixR (rs : List (Option Nat)) (i : Nat) : Option Nat := rs.findIdx? fun r => r == some i
def backF (rs : List (Option Nat)) (Fc F : Nat → List Addr) : Nat → List Addr := fun i => match ixR rs i with
  | some k => Fc k
  | none => F i
theorem ixR_some : ∀ {rs : List (Option Nat)} {i k : Nat}, ixR rs i = some k → rs[k]? = some (some i) := by
  intro rs i k h
  unfold ixR at h
  obtain ⟨h1, h2⟩ := List.findIdx?_eq_some_iff_getElem.mp h
  have h3 := h2.1
  have e : rs[k] = some i := by simpa using h3
  rw [List.getElem?_eq_getElem h1, e]
theorem ixR_none {rs : List (Option Nat)} {i : Nat} (h : ixR rs i = none) : i ∉ refL rs := by
  intro hi
  obtain ⟨k, hk⟩ := of_refL hi
  unfold ixR at h
  have := List.findIdx?_eq_none_iff.mp h (some i) (List.mem_of_getElem? hk)
  simp at this
theorem backR_len : ∀ {rs : List (Option Nat)} {os st : Sl}, (backR rs os st).length = st.length
  | [], _, _ => by
    unfold backR
    rfl
  | some j :: rs, [], st => rfl
  | none :: rs, [], st => rfl
  | some j :: rs, o :: os, st => by
    show (backR rs os (put st j o)).length = _
    rw [backR_len, len_put]
  | none :: rs, o :: os, st => by
    show (backR rs os st).length = _
    rw [backR_len]
theorem backR_out : ∀ {rs : List (Option Nat)} {os st : Sl} {i : Nat}, i ∉ refL rs → get (backR rs os st) i = get st i
  | [], _, _, _, _ => by
    unfold backR
    rfl
  | some j :: rs, [], st, _, _ => rfl
  | none :: rs, [], st, _, _ => rfl
  | some j :: rs, o :: os, st, i, h => by
    have h1 : i ≠ j := fun e => h (e ▸ List.mem_cons_self)
    show get (backR rs os (put st j o)) i = _
    rw [backR_out fun z => h (List.mem_cons_of_mem _ z), get_put_ne h1]
  | none :: rs, o :: os, st, i, h => by
    show get (backR rs os st) i = _
    rw [backR_out (rs := rs) h]
theorem backR_at : ∀ {rs : List (Option Nat)} {os st : Sl} {k j : Nat}, distinct (refL rs) = true → os.length = rs.length → j < st.length → rs[k]? = some (some j) → get (backR rs os st) j = get os k
  | [], _, _, _, _, _, _, _, h => by simp at h
  | some m :: rs, [], st, _, _, _, hl, _, _ => by cases hl
  | none :: rs, [], st, _, _, _, hl, _, _ => by cases hl
  | some m :: rs, o :: os, st, k, j, hd, hl, hj, h => by
    have hd' : (!(refL rs).contains m && distinct (refL rs)) = true := hd
    rw [Bool.and_eq_true] at hd'
    have nm : m ∉ refL rs := by simpa using hd'.1
    show get (backR rs os (put st m o)) j = _
    cases k with
    | zero =>
      have e : m = j := by simpa using h
      subst e
      rw [backR_out nm, get_put_same hj]
      rfl
    | succ k => exact backR_at (rs := rs) hd'.2 (Nat.succ.inj hl) (by rw [len_put]; exact hj) (by simpa using h)
  | none :: rs, o :: os, st, k, j, hd, hl, hj, h => by
    show get (backR rs os st) j = _
    cases k with
    | zero => simp at h
    | succ k => exact backR_at (rs := rs) hd (Nat.succ.inj hl) hj (by simpa using h)
section
variable {K : PySem.W.Frag} {G Gc : Nat → O} {σ : L2.St} {st outs : Sl} {R H R1 H1 R' H' : Hp} {F F1 Fc' : Nat → List Addr} {f g : List Addr} {M : List Nat} {tys : List Ty} {ds : List D} {vs : List V} {os : List O} {rs : List (Option Nat)} {Fs : List (List Addr)}
theorem CA.refAt (c : CA K σ st R H F os rs ds vs Fs f) : ∀ {k j : Nat}, rs[k]? = some (some j) → ∃ v d, vs[k]? = some v ∧ σ[j]? = some (some v) ∧ Mini.get st j = some d := by
  induction c with
  | nil =>
    intro k j h
    simp at h
  | ref h1 h2 h3 _ ih =>
    intro k j h
    cases k with
    | zero =>
      simp at h
      subst h
      exact ⟨_, _, rfl, h2, h1⟩
    | succ k => exact ih (k := k) (by simpa using h)
  | val h3 _ ih =>
    intro k j h
    cases k with
    | zero => simp at h
    | succ k => exact ih (k := k) (by simpa using h)
theorem call_back (c : CA K σ st R1 H1 F1 os rs ds vs Fs f) (r1 : Rel K G σ st R1 H1 F1) (s1 : Stp M R F H R1 F1 H1 f) (hk : ∀ a ∈ f, ∃ u, H1 a = some u) (hd : distinct (refL rs) = true)
    (hG : ∀ k j, rs[k]? = some (some j) → G j = Gc k) (rc : Rel K Gc (vs.map some) outs R' H' Fc') (tc : Stp (List.range os.length) R1 (fun i => Fs.getD i []) H1 R' Fc' H' g) :
    Rel K G σ (backR rs outs st) R' H' (backF rs Fc' F1) ∧ Stp (M ++ refL rs) R F H R' (backF rs Fc' F1) H' g := by
  obtain ⟨l1, l2, l3, l4⟩ := c.vlen
  have lo : outs.length = rs.length := by rw [rc.len, List.length_map, l1, l4]
  have rng : ∀ {k j : Nat}, rs[k]? = some (some j) → k ∈ List.range os.length := fun {k j} h => by
    rw [List.mem_range, ← l4]
    exact (List.getElem?_eq_some_iff.mp h).1
  -- an address of a slot that is not handed on stands apart from all that is
  have apart : ∀ {a : Addr} {i : Nat}, a ∈ F1 i → i ∉ refL rs → ∀ k, a ∉ Fs.getD k [] := fun {a i} h hi k z => by
    rcases c.src z with ⟨j, e, m, _⟩ | ⟨_, m⟩
    · have := r1.dj _ _ _ h m
      subst this
      exact hi (mem_refL e)
    · exact s1.dj a m i h
  have noOrg : ∀ {a : Addr} {i : Nat}, a ∈ F1 i → i ∉ refL rs → ¬ ((∃ k, k ∈ List.range os.length ∧ a ∈ Fs.getD k []) ∨ H1 a = none) := by
    rintro a i h hi (⟨k, _, z⟩ | z)
    · exact apart h hi k z
    · obtain ⟨u, e⟩ := r1.dom h
      rw [z] at e
      cases e
  have at_ : ∀ {i k : Nat}, ixR rs i = some k → backF rs Fc' F1 i = Fc' k := fun {i k} e => by
    unfold backF
    rw [e]
  have out_ : ∀ {i : Nat}, ixR rs i = none → backF rs Fc' F1 i = F1 i := fun {i} e => by
    unfold backF
    rw [e]
  have out2 : ∀ {i : Nat}, i ∉ refL rs → backF rs Fc' F1 i = F1 i := fun {i} hi => by
    cases e : ixR rs i with
    | none => exact out_ e
    | some k => exact absurd (mem_refL (ixR_some e)) hi
  have key : ∀ {a : Addr}, ((∃ k, k ∈ List.range os.length ∧ a ∈ Fs.getD k []) ∨ H1 a = none) → (∃ i, i ∈ M ++ refL rs ∧ a ∈ F i) ∨ H a = none := by
    rintro a (⟨k, _, z⟩ | z)
    · rcases c.src z with ⟨j, e, m, _⟩ | ⟨_, m⟩
      · by_cases hj : j ∈ M
        · rcases s1.org a (.inr ⟨j, hj, m⟩) with ⟨i, hi, q⟩ | q
          · exact .inl ⟨i, List.mem_append_left _ hi, q⟩
          · exact .inr q
        · rw [s1.un j hj] at m
          exact .inl ⟨j, List.mem_append_right _ (mem_refL e), m⟩
      · rcases s1.org a (.inl m) with ⟨i, hi, q⟩ | q
        · exact .inl ⟨i, List.mem_append_left _ hi, q⟩
        · exact .inr q
    · exact .inr (s1.kp a z)
  refine ⟨⟨?_, fun i d h => ?_, fun i h => ?_, fun i => ?_, fun i j a h1 h2 => ?_, rc.sub, fun i a h => ?_⟩, ⟨fun i hi => ?_, fun a h => ?_, fun a u h k => ?_, fun a h => s1.kp a (tc.kp a h), s1.ex.trans tc.ex, fun a u h => ?_, fun a h i z => ?_, tc.nd, tc.off⟩⟩
  · rw [backR_len]
    exact r1.len
  · cases e : ixR rs i with
    | some k =>
      have hr := ixR_some e
      obtain ⟨v, d0, hv, hs, hg⟩ := c.refAt hr
      rw [backR_at hd lo (get_lt hg) hr] at h
      obtain ⟨v', e', q⟩ := rc.sl k d h
      rw [List.getElem?_map, hv] at e'
      cases e'
      refine ⟨v, hs, ?_⟩
      rw [at_ e, hG k i hr]
      exact q
    | none =>
      have ni := ixR_none e
      rw [backR_out ni] at h
      obtain ⟨v, hs, q⟩ := r1.sl i d h
      refine ⟨v, hs, ?_⟩
      rw [out_ e]
      exact RpO.stay tc.ex _ _ _ _ q fun a ha u eu => tc.fr a u eu fun k _ => apart ha ni k
  · cases e : ixR rs i with
    | some k =>
      have hr := ixR_some e
      obtain ⟨v, d0, hv, hs, hg⟩ := c.refAt hr
      rw [backR_at hd lo (get_lt hg) hr] at h
      rw [at_ e]
      exact rc.em k h
    | none =>
      rw [backR_out (ixR_none e)] at h
      rw [out_ e]
      exact r1.em i h
  · cases e : ixR rs i with
    | some k => rw [at_ e]; exact rc.nd k
    | none => rw [out_ e]; exact r1.nd i
  · cases e1 : ixR rs i with
    | some k =>
      rw [at_ e1] at h1
      cases e2 : ixR rs j with
      | some l =>
        rw [at_ e2] at h2
        have := rc.dj _ _ _ h1 h2
        subst this
        have a1 := ixR_some e1
        rw [ixR_some e2] at a1
        cases a1
        rfl
      | none =>
        rw [out_ e2] at h2
        exact absurd (tc.org a (.inr ⟨k, rng (ixR_some e1), h1⟩)) (noOrg h2 (ixR_none e2))
    | none =>
      rw [out_ e1] at h1
      cases e2 : ixR rs j with
      | some l =>
        rw [at_ e2] at h2
        exact absurd (tc.org a (.inr ⟨l, rng (ixR_some e2), h2⟩)) (noOrg h1 (ixR_none e1))
      | none =>
        rw [out_ e2] at h2
        exact r1.dj _ _ _ h1 h2
  · cases e : ixR rs i with
    | some k =>
      rw [at_ e] at h
      exact rc.off k a h
    | none =>
      rw [out_ e] at h
      cases e2 : R' a with
      | none => rfl
      | some u =>
        rcases tc.ro a u e2 with z | z
        · rw [r1.off i a h] at z
          cases z
        · exact absurd z (noOrg h (ixR_none e))
  · rw [List.mem_append, not_or] at hi
    rw [out2 hi.2, s1.un i hi.1]
  · rcases h with h | ⟨i, hi, h⟩
    · exact key (tc.org a (.inl h))
    · cases e : ixR rs i with
      | some k =>
        rw [at_ e] at h
        exact key (tc.org a (.inr ⟨k, rng (ixR_some e), h⟩))
      | none =>
        rw [out_ e] at h
        have him : i ∈ M := (List.mem_append.mp hi).resolve_right (ixR_none e)
        rcases s1.org a (.inr ⟨i, him, h⟩) with ⟨j, hj, q⟩ | q
        · exact .inl ⟨j, List.mem_append_left _ hj, q⟩
        · exact .inr q
  · have h1 := s1.fr a u h fun i hi => k i (List.mem_append_left _ hi)
    refine tc.fr a u h1 fun j hj z => ?_
    rcases key (.inl ⟨j, hj, z⟩) with ⟨i, hi, q⟩ | q
    · exact k i hi q
    · rw [q] at h
      cases h
  · rcases tc.ro a u h with z | z
    · rcases s1.ro a u z with z | ⟨i, hi, z⟩ | z
      · exact .inl z
      · exact .inr (.inl ⟨i, List.mem_append_left _ hi, z⟩)
      · exact .inr (.inr z)
    · rcases key z with z | z
      · exact .inr (.inl z)
      · exact .inr (.inr z)
  · cases e : ixR rs i with
    | some k =>
      rw [at_ e] at z
      exact tc.dj a h k z
    | none =>
      rw [out_ e] at z
      exact absurd (tc.org a (.inl h)) (noOrg z (ixR_none e))
end
end Mini

/-! Mini, part 12: patterns, and what is walked. -/
namespace Mini
open PySem (Expr Stmt Operator CmpOp UnaryOp BoolOp Const Pos Scope NameKind Addr)
open PySem PyProof.Rows
open L2
section
variable {K : PySem.W.Frag} {G : Nat → O} {W : WW} {σ σ' : L2.St} {st st' st1 : Sl} {R H R' H' R1 H1 R2 H2 : Hp} {F F' F1 F2 : Nat → List Addr} {M M1 M2 : List Nat} {f f1 f2 : List Addr} {ty t : Ty} {d : D} {v : V} {ds : List D} {vs : List V}
theorem Aft.mono {α β : Type} {P : L2.St → Hp → Hp → (Nat → List Addr) → α → β → List Addr → Prop} {Q Q' : β → Hp → Prop} {x : Out α} (h : Aft K G W P M σ R F H st Q x) (k : ∀ v H, Q v H → Q' v H) : Aft K G W P M σ R F H st Q' x := by
  cases x with
  | ok a st' => exact fun v R' F' H' f r p s q => k _ _ (h v R' F' H' f r p s q)
  | exc c st' => exact h
  | bad => exact h
theorem tE.mono {run : Sl → Out D} {Q Q' : VK} (h : tE K G W ty M run σ H Q) (k : ∀ v H, Q v H → Q' v H) : tE K G W ty M run σ H Q' := by
  obtain ⟨st, R, F, r, h⟩ := h
  exact ⟨st, R, F, r, h.mono k⟩

/-! ### a slot is set -/
theorem Rel.fzF (r : Rel K G σ st R H F) {i : Nat} (hg : G i = .fz) : F i = [] := by
  cases e : get st i with
  | none => exact r.em i e
  | some d =>
    obtain ⟨v, _, q⟩ := r.sl i d e
    rw [hg] at q
    exact q.2
theorem Rel.set (r : Rel K G σ st R H F) {i : Nat} (hg : G i = .fz) (h : Rep K R d v) : Rel K G (σ.set i (some v)) (put st i (some d)) R H F := by
  have hF := r.fzF hg
  refine ⟨by rw [len_put, List.length_set]; exact r.len, fun j d' e => ?_, fun j e => ?_, r.nd, r.dj, r.sub, r.off⟩
  · by_cases hj : j = i
    · subst hj
      have lt := get_lt e
      rw [len_put] at lt
      rw [get_put_same lt] at e
      cases e
      refine ⟨v, List.getElem?_set_self (by rw [← r.len]; exact lt), ?_⟩
      rw [hg, hF]
      exact ⟨h, rfl⟩
    · rw [get_put_ne hj] at e
      obtain ⟨w, e1, e2⟩ := r.sl j d' e
      exact ⟨w, by rw [List.getElem?_set_ne (Ne.symm hj)]; exact e1, e2⟩
  · by_cases hj : j = i
    · subst hj
      exact hF
    · rw [get_put_ne hj] at e
      exact r.em j e
theorem Rel.unset (r : Rel K G σ st R H F) {i : Nat} (hg : G i = .fz) {x : Option V} : Rel K G (σ.set i x) (put st i none) R H F := by
  have hF := r.fzF hg
  refine ⟨by rw [len_put, List.length_set]; exact r.len, fun j d' e => ?_, fun j e => ?_, r.nd, r.dj, r.sub, r.off⟩
  · by_cases hj : j = i
    · subst hj
      have lt := get_lt e
      rw [len_put] at lt
      rw [get_put_same lt] at e
      cases e
    · rw [get_put_ne hj] at e
      obtain ⟨w, e1, e2⟩ := r.sl j d' e
      exact ⟨w, by rw [List.getElem?_set_ne (Ne.symm hj)]; exact e1, e2⟩
  · by_cases hj : j = i
    · subst hj
      exact hF
    · rw [get_put_ne hj] at e
      exact r.em j e
theorem Rel.clear {is : List Nat} (r : Rel K G σ st R H F) (hg : ∀ i ∈ is, G i = .fz) : Rel K G (wipe σ is) (Mini.clear is st) R H F := by
  induction is with
  | nil => exact r
  | cons i is ih => exact (ih fun j hj => hg j (List.mem_cons_of_mem _ hj)).unset (hg i List.mem_cons_self)
theorem clear_len {is : List Nat} {st : Sl} : (Mini.clear is st).length = st.length := by
  induction is with
  | nil => rfl
  | cons i is ih =>
    show (put (Mini.clear is st) i none).length = _
    rw [len_put, ih]
theorem clear_out {is : List Nat} {st : Sl} {i : Nat} (h : i ∉ is) : get (Mini.clear is st) i = get st i := by
  induction is with
  | nil => rfl
  | cons j is ih =>
    rw [List.mem_cons, not_or] at h
    show get (put (Mini.clear is st) j none) i = _
    rw [get_put_ne h.1, ih h.2]
theorem clear_in {is : List Nat} {st : Sl} {i : Nat} (h : i ∈ is) : get (Mini.clear is st) i = none := by
  induction is with
  | nil => cases h
  | cons j is ih =>
    show get (put (Mini.clear is st) j none) i = none
    by_cases e : i = j
    · subst e
      by_cases hl : i < (Mini.clear is st).length
      · exact get_put_same hl
      · exact get_none (by rw [len_put]; omega)
    · rw [get_put_ne e]
      exact ih ((List.mem_cons.mp h).resolve_left e)
theorem wipe_out' {is : List Nat} {i : Nat} (h : i ∉ is) : (wipe σ is)[i]? = σ[i]? := wipe_out h
theorem back_len {is : List Nat} {old st : Sl} : (back is old st).length = st.length := by
  induction is with
  | nil => rfl
  | cons i is ih =>
    show (put (back is old st) i (get old i)).length = _
    rw [len_put, ih]
theorem back_out {is : List Nat} {old st : Sl} {i : Nat} (h : i ∉ is) : get (back is old st) i = get st i := by
  induction is with
  | nil => rfl
  | cons j is ih =>
    rw [List.mem_cons, not_or] at h
    show get (put (back is old st) j (get old j)) i = _
    rw [get_put_ne h.1, ih h.2]
theorem back_in {is : List Nat} {old st : Sl} {i : Nat} (h : i ∈ is) (hl : old.length = st.length) : get (back is old st) i = get old i := by
  induction is with
  | nil => cases h
  | cons j is ih =>
    show get (put (back is old st) j (get old j)) i = _
    by_cases e : i = j
    · subst e
      by_cases hl2 : i < (back is old st).length
      · exact get_put_same hl2
      · rw [get_none (by rw [len_put]; omega), get_none (by rw [back_len] at hl2; omega)]
    · rw [get_put_ne e]
      exact ih ((List.mem_cons.mp h).resolve_left e)

/-! ### patterns -/
def gsN : List Nat → TGs
  | [] => gNil
  | i :: is => gCons (gName i) (gsN is)
def tgG (K : PySem.W.Frag) : List Nat → Bool → TG
  | [i], false => gName i
  | is, true => gTup K is.length (gsN is)
  | _, _ => fun _ _ _ _ => False
theorem bindL_len : ∀ {is : List Nat} {ds : List D} {st st' : Sl}, bindL is ds st = some st' → is.length = ds.length ∧ st'.length = st.length
  | [], [], _, _, h => by
    cases h
    exact ⟨rfl, rfl⟩
  | i :: is, d :: ds, st, st', h => by
    have h' : bindL is ds (put st i (some d)) = some st' := h
    obtain ⟨a, b⟩ := bindL_len h'
    exact ⟨by rw [List.length_cons, List.length_cons, a], by rw [b, len_put]⟩
  | [], _ :: _, _, _, h => by cases h
  | _ :: _, [], _, _, h => by cases h
theorem bindL_ok : ∀ {is : List Nat} {ds : List D} {vs : List V} {st st' : Sl} {σ : L2.St} {Q : L2.St → Hp → Prop}, Rel K G σ st R H F → (∀ i ∈ is, G i = .fz) → RepL K R ds vs → bindL is ds st = some st' →
    (∀ σ', Rel K G σ' st' R H F → σ'.length = σ.length → (∀ i, i ∉ is → σ'[i]? = σ[i]? ∧ get st' i = get st i) → Q σ' H) → gsN is vs σ H Q
  | [], [], vs, _, _, σ, Q, r, _, q, h, k => by
    cases h
    exact ⟨q, k σ r rfl fun _ _ => ⟨rfl, rfl⟩⟩
  | i :: is, d :: ds, _, st, st', σ, Q, r, hg, ⟨w, ws, rfl, a, b⟩, h, k => by
    have h' : bindL is ds (put st i (some d)) = some st' := h
    refine ⟨w, ws, rfl, ?_⟩
    show gsN is ws (σ.set i (some w)) H fun σ' H' => Q σ' H'
    refine bindL_ok (r.set (hg i List.mem_cons_self) a) (fun j hj => hg j (List.mem_cons_of_mem _ hj)) b h' fun σ' r' l' e' => ?_
    refine k σ' r' (by rw [l', List.length_set]) fun j hj => ?_
    rw [List.mem_cons, not_or] at hj
    obtain ⟨e1, e2⟩ := e' j hj.2
    exact ⟨by rw [e1, List.getElem?_set_ne (Ne.symm hj.1)], by rw [e2, get_put_ne hj.1]⟩
  | [], _ :: _, _, _, _, _, _, _, _, _, h, _ => by cases h
  | _ :: _, [], _, _, _, _, _, _, _, _, h, _ => by cases h
theorem bindT_ok {tg : List Nat} {un : Bool} {x : V} {Q : L2.St → Hp → Prop} (r : Rel K G σ st R H F) (hg : ∀ i ∈ tg, G i = .fz) (q : Rep K R d x) (h : bindT tg un d st = some st')
    (k : ∀ σ', Rel K G σ' st' R H F → σ'.length = σ.length → (∀ i, i ∉ tg → σ'[i]? = σ[i]? ∧ get st' i = get st i) → Q σ' H) : tgG K tg un x σ H Q := by
  unfold bindT at h
  cases un with
  | false =>
    simp only at h
    split at h
    · rename_i i
      cases h
      refine k _ (r.set (hg i List.mem_cons_self) q) (by rw [List.length_set]) fun j hj => ?_
      have hj' : j ≠ i := fun e => hj (e ▸ List.mem_cons_self)
      exact ⟨List.getElem?_set_ne (Ne.symm hj'), get_put_ne hj'⟩
    · cases h
  | true =>
    simp only at h
    split at h
    · obtain ⟨p, us, rfl, hp, hlq⟩ := q
      have hb := bindL_len h
      have : gTup K tg.length (gsN tg) (.ref p) σ H Q := ⟨p, us, rfl, .inl (.inl (r.sub _ _ hp)), by rw [hlq.length, hb.1], bindL_ok r hg hlq h k⟩
      cases tg with
      | nil => exact this
      | cons i is =>
        cases is <;> exact this
    · cases h
end
section
variable {X : Cx} {k : Nat} {C : SC} {sc : Scope}
theorem sets_ok {i : Nat} {x : PySem.Str} (h : sets C sc i x = true) : C.N[i]? = some x ∧ Loc sc x := by
  unfold sets at h
  simp only [Bool.and_eq_true] at h
  refine ⟨of_decide_eq_true h.1, ?_⟩
  have h2 := h.2.1
  unfold loc at h2
  split at h2
  · rename_i e
    exact .inl e
  · rename_i e
    exact .inr e
  · cases h2
theorem pgs_ok (nd : X.N.Nodup) (hN : X.N = C.N) (hL : ∀ x, Loc sc x → Loc X.env.scope x ∧ (X.fn x = true ∨ X.env.scope.names.lookup x = some .local)) : ∀ {is : List Nat} {es : List Expr}, tgs C sc is es = true →
    PGs X es (gsN is) ∧ (assignEach es X.env).length = is.length ∧ (assignEach es X.env).findIdx? (·.1) = none ∧ ∀ i ∈ is, C.g i = .fz ∧ i < C.N.length
  | [], [], _ => ⟨pgs_nil, rfl, rfl, fun _ h => nomatch h⟩
  | i :: is, .Name x p :: es, h => by
    have h' : (sets C sc i x && (decide (C.g i = .fz) && tgs C sc is es)) = true := h
    simp only [Bool.and_eq_true] at h'
    obtain ⟨h1, h2, h3⟩ := h'
    obtain ⟨a, b⟩ := sets_ok h1
    obtain ⟨c1, c2, c3, c4⟩ := pgs_ok nd hN hL h3
    refine ⟨pgs_cons (pg_name nd (by rw [hN]; exact a) (hL x b).1 (hL x b).2) c1, ?_, ?_, fun j hj => ?_⟩
    · show (assignEach es X.env).length + 1 = is.length + 1
      rw [c2]
    · show (((false, assign (.Name x p) X.env) :: assignEach es X.env).findIdx? (·.1)) = none
      rw [List.findIdx?_cons]
      simp [c3]
    · rcases List.mem_cons.mp hj with rfl | hj
      · exact ⟨of_decide_eq_true h2, (List.getElem?_eq_some_iff.mp a).1⟩
      · exact c4 j hj
  | [], _ :: _, h => by cases h
  | _ :: _, [], h => by cases h
theorem pg_ok (hc : X.calm = true) (nd : X.N.Nodup) (hN : X.N = C.N) (hL : ∀ x, Loc sc x → Loc X.env.scope x ∧ (X.fn x = true ∨ X.env.scope.names.lookup x = some .local)) {tg : List Nat} {un : Bool} {e : Expr} (h : tgOk C sc tg un e = true) :
    PG X e (tgG X.K tg un) ∧ ∀ i ∈ tg, C.g i = .fz ∧ i < C.N.length := by
  unfold tgOk at h
  split at h
  · simp only [Bool.and_eq_true] at h
    obtain ⟨a, b⟩ := sets_ok h.1
    refine ⟨pg_name nd (by rw [hN]; exact a) (hL _ b).1 (hL _ b).2, fun j hj => ?_⟩
    have e := List.mem_singleton.mp hj
    subst e
    exact ⟨of_decide_eq_true h.2, (List.getElem?_eq_some_iff.mp a).1⟩
  · obtain ⟨c1, c2, c3, c4⟩ := pgs_ok nd hN hL h
    refine ⟨?_, c4⟩
    have key : ∀ kk ps, PG X (.Tuple _ kk ps) (gTup X.K tg.length (gsN tg)) := fun kk ps => pg_tup hc c1 c2 c3
    cases tg with
    | nil => exact key _ _
    | cons i is =>
      cases is <;> exact key _ _
  · cases h
end
end Mini

/-! Mini, part 13: what a loop or a comprehension walks. -/
namespace Mini
open PySem (Expr Stmt Operator CmpOp UnaryOp BoolOp Const Pos Scope NameKind Addr)
open PySem PyProof.Rows
open L2
/-- a list or a tuple, whichever it is -/
theorem pi_seq {X : Cx} {tg l : Expr} {tl : TE} (hl : PE X l tl) : PI X tg l (fun σ H R => tl σ H fun x H1 => ∃ a, x = .ref a ∧ (((∃ xs, SqL X.K H1 a xs) ∧ R (Itl X.K a) H1) ∨ ((∃ xs, SqT X.K H1 a xs) ∧ R (Itt X.K a) H1))) := by
  refine ⟨fun pins s σ H R I h => ?_⟩
  refine thn (hl.run pins s σ H _ I h) fun v s1 ⟨x, H1, I1, r1, q1⟩ => ?_
  obtain ⟨a, e, q1⟩ := q1
  subst e
  cases r1
  rcases q1 with ⟨⟨xs, hq⟩, q⟩ | ⟨⟨xs, hq⟩, q⟩
  · obtain ⟨its, rv, p, hz⟩ := I1.list hq
    refine wpAny_pyIter_list p.isList ?_
    refine ⟨s1.heap.objs.size, [s1.heap.objs.size], _, _, H1, rfl, I1.kept (t' := s1.toks) fun b o e => Heap.get?_push_of_some _ e, turn_list a _, ⟨_, Heap.get?_push_size _ rfl, rfl, rfl⟩, fun b hb => ?_, q⟩
    have e : b = s1.heap.objs.size := by simpa using hb
    subst e
    exact I1.fpOk (Nat.le_refl _) (I1.hok.fresh (Nat.le_refl _))
  · obtain ⟨its, rv, p, hz⟩ := I1.tuple hq
    refine wpAny_pyIter_tuple (show s1.heap.IsTuple a its.toArray from p) ?_
    refine ⟨s1.heap.objs.size, [s1.heap.objs.size], _, _, H1, rfl, I1.kept (t' := s1.toks) fun b o e => Heap.get?_push_of_some _ e, turn_tuple a _, ⟨_, Heap.get?_push_size _ rfl, rfl, rfl⟩, fun b hb => ?_, q⟩
    have e : b = s1.heap.objs.size := by simpa using hb
    subst e
    exact I1.fpOk (Nat.le_refl _) (I1.hok.fresh (Nat.le_refl _))
/-- an iterator that yields the data ds, as long as the slots P stay -/
structure Wk (K : PySem.W.Frag) (J : It) (ds : List D) (P : List Nat) (R : Hp) (F : Nat → List Addr) (H : Hp) : Prop where
  go : ∀ {M : List Nat} {R' : Hp} {F' : Nat → List Addr} {H' : Hp} {f : List Addr}, Stp M R F H R' F' H' f → (∀ i ∈ P, i ∉ M) → Sub R' H' → ∀ {i : Nat} {d : D}, ds[i]? = some d →
    J.go i H' ∧ ∀ x H2, J.yld i H' x H2 → ∃ R2, Sub R' R2 ∧ (∀ a u, R2 a = some u → R' a = some u ∨ H' a = none) ∧ Sub R2 H2 ∧ Sub H' H2 ∧ Rep K R2 d x
  stop : ∀ {M : List Nat} {R' : Hp} {F' : Nat → List Addr} {H' : Hp} {f : List Addr}, Stp M R F H R' F' H' f → (∀ i ∈ P, i ∉ M) → Sub R' H' → J.stop ds.length H'
def AftI (K : PySem.W.Frag) (G : Nat → O) (W : WW) (P M : List Nat) (σ : L2.St) (R : Hp) (F : Nat → List Addr) (H : Hp) (st : Sl) (Rr : It → Hp → Prop) : Out (List D) → Prop
  | .ok ds st' => ∀ J R' F' H', Rel K G σ st' R' H' F' → Wk K J ds P R' F' H' → Stp M R F H R' F' H' [] → (∀ i, i ∉ M → get st' i = get st i) → Rr J H'
  | .exc c st' => ∀ R' F' H', Rel K G σ st' R' H' F' → Stp M R F H R' F' H' [] → (∀ i, i ∉ M → get st' i = get st i) → W c σ H'
  | .bad => False
def tI (K : PySem.W.Frag) (G : Nat → O) (W : WW) (P M : List Nat) (run : Sl → Out (List D)) : TI := fun σ H Rr =>
  ∃ st R F, Rel K G σ st R H F ∧ AftI K G W P M σ R F H st Rr (run st)
section
variable {K : PySem.W.Frag} {G : Nat → O} {W : WW} {σ σ' : L2.St} {st st' st1 : Sl} {R H R' H' R1 H1 R2 H2 : Hp} {F F' F1 F2 : Nat → List Addr} {M M1 M2 P : List Nat} {f f1 f2 : List Addr} {ty t : Ty} {d : D} {v : V} {ds : List D} {vs : List V}
theorem wk_list {p : Addr} (hl : RepL K R ds vs) (keep : ∀ {M : List Nat} {R' : Hp} {F' : Nat → List Addr} {H' : Hp} {f : List Addr}, Stp M R F H R' F' H' f → (∀ i ∈ P, i ∉ M) → Sub R' H' → H' p = some (.lst vs)) : Wk K (Itl K p) ds P R F H where
  go := fun {M R' F' H' f} s hp sb {i d} e => by
    have h := keep s hp sb
    obtain ⟨w, hw, rw_⟩ := RepL.get (RepL.mono s.ex _ _ hl) e
    refine ⟨⟨vs, w, .inl (.inl h), hw⟩, fun x H2 y => ?_⟩
    obtain ⟨rfl, y⟩ := y
    have := y vs (.inl (.inl h))
    rw [hw] at this
    cases this
    exact ⟨R', Sub.refl _, fun _ _ z => .inl z, sb, Sub.refl _, rw_⟩
  stop := fun {M R' F' H' f} s hp sb => ⟨vs, .inl (.inl (keep s hp sb)), Nat.le_of_eq hl.length⟩
theorem wk_tup {p : Addr} (hl : RepL K R ds vs) (keep : ∀ {M : List Nat} {R' : Hp} {F' : Nat → List Addr} {H' : Hp} {f : List Addr}, Stp M R F H R' F' H' f → (∀ i ∈ P, i ∉ M) → Sub R' H' → H' p = some (.tup vs)) : Wk K (Itt K p) ds P R F H where
  go := fun {M R' F' H' f} s hp sb {i d} e => by
    have h := keep s hp sb
    obtain ⟨w, hw, rw_⟩ := RepL.get (RepL.mono s.ex _ _ hl) e
    refine ⟨⟨vs, w, .inl (.inl h), hw⟩, fun x H2 y => ?_⟩
    obtain ⟨rfl, y⟩ := y
    have := y vs (.inl (.inl h))
    rw [hw] at this
    cases this
    exact ⟨R', Sub.refl _, fun _ _ z => .inl z, sb, Sub.refl _, rw_⟩
  stop := fun {M R' F' H' f} s hp sb => ⟨vs, .inl (.inl (keep s hp sb)), Nat.le_of_eq hl.length⟩
theorem wk_rng {lo : Int} {n : Nat} : Wk K (Itr lo n) (rngD lo n) P R F H where
  go := fun {M R' F' H' f} s hp sb {i d} e => by
    unfold rngD at e
    rw [List.getElem?_map] at e
    cases e2 : (List.range n)[i]? with
    | none => rw [e2] at e; cases e
    | some j =>
      rw [e2] at e
      cases e
      obtain ⟨h1, h2⟩ := List.getElem?_eq_some_iff.mp e2
      rw [List.getElem_range] at h2
      subst h2
      rw [List.length_range] at h1
      refine ⟨h1, fun x H2 y => ?_⟩
      obtain ⟨rfl, rfl⟩ := y
      exact ⟨R', Sub.refl _, fun _ _ z => .inl z, sb, Sub.refl _, rfl⟩
  stop := fun {M R' F' H' f} s hp sb => by
    show n ≤ (rngD lo n).length
    unfold rngD
    rw [List.length_map, List.length_range]
    exact Nat.le_refl _
def srcP (t : Ty) : List Nat := match t with
  | .pk i _ => [i] | _ => []
/-- a value that is walked -/
theorem wk_seq (r : Rel K G σ st R H F) (p : RpT K σ R H F t d v f) (hd : ∀ a ∈ f, ∀ i, a ∉ F i) (ht : (itTy t).isSome = true) (hi : itemsD d = some ds) :
    ∃ a, v = .ref a ∧ (((∃ xs, SqL K H a xs) ∧ Wk K (Itl K a) ds (srcP t) R F H) ∨ ((∃ xs, SqT K H a xs) ∧ Wk K (Itt K a) ds (srcP t) R F H)) := by
  have fzz : ∀ {v}, Rep K R d v → ∃ a, v = .ref a ∧ (((∃ xs, SqL K H a xs) ∧ Wk K (Itl K a) ds (srcP t) R F H) ∨ ((∃ xs, SqT K H a xs) ∧ Wk K (Itt K a) ds (srcP t) R F H)) := fun {v} q => by
    unfold itemsD at hi
    split at hi
    · cases hi
      obtain ⟨a, vs, rfl, ha, hl⟩ := q
      exact ⟨a, rfl, .inl ⟨⟨vs, .inl (.inl (r.sub _ _ ha))⟩, wk_list hl fun s _ sb => sb _ _ (s.ex _ _ ha)⟩⟩
    · cases hi
      obtain ⟨a, vs, rfl, ha, hl⟩ := q
      exact ⟨a, rfl, .inr ⟨⟨vs, .inl (.inl (r.sub _ _ ha))⟩, wk_tup hl fun s _ sb => sb _ _ (s.ex _ _ ha)⟩⟩
    · cases hi
  unfold itTy at ht
  split at ht
  · exact fzz p.1
  · rcases p with ⟨e, _⟩ | ⟨ds', a, vs, g, rfl, rfl, ha, hl, rfl⟩
    · unfold itemsD at hi
      split at hi <;> first | (cases e; done) | cases hi
    · cases hi
      exact ⟨a, rfl, .inl ⟨⟨vs, .inl (.inl ha)⟩, wk_list hl.fz.1 fun s _ _ => s.fr _ _ ha fun i _ => hd a List.mem_cons_self i⟩⟩
  · rename_i i
    obtain ⟨_, g, p, hg⟩ := p
    rcases p with ⟨e, _⟩ | ⟨ds', a, vs, g, rfl, rfl, ha, hl, rfl⟩
    · unfold itemsD at hi
      split at hi <;> first | (cases e; done) | cases hi
    · cases hi
      refine ⟨a, rfl, .inl ⟨⟨vs, .inl (.inl ha)⟩, wk_list hl.fz.1 fun s hp _ => s.fr _ _ ha fun j hj z => ?_⟩⟩
      have := r.dj _ _ _ (hg a List.mem_cons_self) z
      subst this
      exact hp i (show i ∈ [i] from List.mem_cons_self) hj
  · rcases p with ⟨e, _⟩ | ⟨ds', a, vs, g, rfl, rfl, ha, hl, rfl⟩
    · unfold itemsD at hi
      split at hi <;> first | (cases e; done) | cases hi
    · cases hi
      exact ⟨a, rfl, .inr ⟨⟨vs, .inl (.inl ha)⟩, wk_tup hl.fz.1 fun s _ _ => s.fr _ _ ha fun i _ => hd a List.mem_cons_self i⟩⟩
  · cases ht
/-- a Wk holds behind a step -/
theorem Wk.step {J : It} (w : Wk K J ds P R F H) (s : Stp M R F H R1 F1 H1 f) (hp : ∀ i ∈ P, i ∉ M) : Wk K J ds P R1 F1 H1 where
  go := fun {M' R' F' H' f'} t hp' sb {i d} e => w.go (s.trans t) (fun i hi z => (List.mem_append.mp z).elim (hp i hi) (hp' i hi)) sb e
  stop := fun {M' R' F' H' f'} t hp' sb => w.stop (s.trans t) (fun i hi z => (List.mem_append.mp z).elim (hp i hi) (hp' i hi)) sb
end
end Mini

/-! Mini, part 14: the forms of expressions, one by one. -/
namespace Mini
open PySem (Expr Stmt Operator CmpOp UnaryOp BoolOp Const Pos Scope NameKind Addr)
open PySem PyProof.Rows
open L2
section
variable {K : PySem.W.Frag} {G : Nat → O} {W : WW} {σ σ' : L2.St} {st st' st1 : Sl} {R H R' H' R1 H1 R2 H2 : Hp} {F F' F1 F2 : Nat → List Addr} {M M1 M2 P : List Nat} {f f1 f2 : List Addr} {ty t : Ty} {d : D} {v : V} {ds : List D} {vs : List V} {Q : VK} {cl : Nat → List D → CO}
/-! ### leaves -/
theorem cst_ok {X : Cx} {x : Expr} (h : isCst d x = true) : ∃ v, PE X x (tC v) ∧ scal d = true ∧ ∀ R, Rep K R d v := by
  unfold isCst at h
  split at h
  · exact ⟨.non, pe_non, rfl, fun _ => rfl⟩
  · have e := eq_of_beq h
    subst e
    exact ⟨_, pe_bl, rfl, fun _ => rfl⟩
  · have e := of_decide_eq_true h
    subst e
    exact ⟨_, pe_int, rfl, fun _ => rfl⟩
  · have e := of_decide_eq_true h
    subst e
    exact ⟨_, pe_str, rfl, fun _ => rfl⟩
  · cases h
theorem cst_sem (hs : scal d = true) (hr : ∀ R, Rep K R d v) (h : tE K G W .sc M (fun st => .ok d st) σ H Q) : tC v σ H Q := by
  obtain ⟨st, R, F, r, h⟩ := h
  exact h v R F H [] r ⟨hs, hr R, rfl⟩ .refl fun _ _ => rfl
theorem var_sem {i : Nat} (h : tE K G W (tyVar (G i) i) M (evE cl (.var i)) σ H Q) : tVar i σ H Q := by
  obtain ⟨st, R, F, r, h⟩ := h
  unfold evE at h
  cases e : get st i with
  | none => rw [e] at h; exact h.elim
  | some d =>
    rw [e] at h
    obtain ⟨v, h1, h2⟩ := r.sl i d e
    refine ⟨v, h1, h v R F H [] r ?_ .refl fun _ _ => rfl⟩
    cases hg : G i with
    | fz =>
      rw [hg] at h2
      exact ⟨h2.1, rfl⟩
    | lst c =>
      rw [hg] at h2
      exact ⟨rfl, F i, h2, fun a ha => ha⟩
    | tup c =>
      rw [hg] at h2
      exact ⟨rfl, F i, h2, fun a ha => ha⟩
theorem sv_sem {i : Nat} (h : tE K G W .sc M (evE cl (.sv i)) σ H Q) : tVar i σ H Q := by
  obtain ⟨st, R, F, r, h⟩ := h
  unfold evE at h
  cases e : get st i with
  | none => rw [e] at h; exact h.elim
  | some d =>
    rw [e] at h
    obtain ⟨v, h1, h2⟩ := r.sl i d e
    cases hs : scal d with
    | false =>
      simp only [hs] at h
      exact h.elim
    | true =>
      simp only [hs] at h
      exact ⟨v, h1, h v R F H [] r ⟨hs, (h2.scal_fp hs).1, rfl⟩ .refl fun _ _ => rfl⟩
theorem rf_sem {i : Nat} (h : tE K G W (.rf i) M (evE cl (.rf i)) σ H Q) : tVar i σ H Q := by
  obtain ⟨st, R, F, r, h⟩ := h
  unfold evE at h
  cases e : get st i with
  | none => rw [e] at h; exact h.elim
  | some d =>
    rw [e] at h
    obtain ⟨v, h1, h2⟩ := r.sl i d e
    exact ⟨v, h1, h v R F H [] r ⟨rfl, h1⟩ .refl fun _ _ => rfl⟩
theorem mv_sem {i : Nat} (h : tE K G W (.v (G i)) [i] (evE cl (.mv i)) σ H Q) : tVar i σ H Q := by
  obtain ⟨st, R, F, r, h⟩ := h
  unfold evE at h
  cases e : get st i with
  | none => rw [e] at h; exact h.elim
  | some d =>
    rw [e] at h
    obtain ⟨v, h1, h2⟩ := r.sl i d e
    have hi := get_lt e
    have ne : ∀ {j : Nat}, j ≠ i → (if j = i then [] else F j) = F j := fun h => if_neg h
    refine ⟨v, h1, h v R (fun j => if j = i then [] else F j) H (F i) ⟨by rw [len_put]; exact r.len, fun j d' e' => ?_, fun j e' => ?_, fun j => ?_, fun j k a h1 h2 => ?_, r.sub, fun j a h1 => ?_⟩
      (RpO.stay (Sub.refl R) _ _ _ _ h2 fun _ _ _ e => e) ⟨fun j hj => ?_, fun a ha => ?_, fun _ _ e _ => e, fun _ e => e, Sub.refl R, fun _ _ e => .inl e, fun a ha j hj => ?_, r.nd i, fun a ha => r.off i a ha⟩ fun j hj => ?_⟩
    · by_cases hj : j = i
      · subst hj
        rw [get_put_same hi] at e'
        cases e'
      · rw [get_put_ne hj] at e'
        obtain ⟨w, e1, e2⟩ := r.sl j d' e'
        refine ⟨w, e1, ?_⟩
        show RpO K R H (G j) d' w (if j = i then [] else F j)
        rw [if_neg hj]
        exact e2
    · show (if j = i then [] else F j) = []
      by_cases hj : j = i
      · rw [if_pos hj]
      · rw [if_neg hj]
        rw [get_put_ne hj] at e'
        exact r.em j e'
    · show (if j = i then [] else F j).Nodup
      by_cases hj : j = i
      · rw [if_pos hj]; exact List.nodup_nil
      · rw [if_neg hj]; exact r.nd j
    · have h1' : a ∈ if j = i then [] else F j := h1
      have h2' : a ∈ if k = i then [] else F k := h2
      by_cases hj : j = i
      · rw [if_pos hj] at h1'; cases h1'
      · rw [if_neg hj] at h1'
        by_cases hk : k = i
        · rw [if_pos hk] at h2'; cases h2'
        · rw [if_neg hk] at h2'
          exact r.dj _ _ _ h1' h2'
    · have h1' : a ∈ if j = i then [] else F j := h1
      by_cases hj : j = i
      · rw [if_pos hj] at h1'; cases h1'
      · rw [if_neg hj] at h1'
        exact r.off j a h1'
    · show (if j = i then [] else F j) = F j
      exact if_neg fun (e : j = i) => hj (by rw [e]; exact List.mem_cons_self)
    · rcases ha with ha | ⟨j, hj, ha⟩
      · exact .inl ⟨i, List.mem_cons_self, ha⟩
      · have ha' : a ∈ if j = i then [] else F j := ha
        rw [if_pos (List.mem_singleton.mp hj)] at ha'
        cases ha'
    · have hj' : a ∈ if j = i then [] else F j := hj
      by_cases e2 : j = i
      · rw [if_pos e2] at hj'; cases hj'
      · rw [if_neg e2] at hj'
        exact e2 (r.dj _ _ _ hj' ha)
    · exact get_put_ne fun (e : j = i) => hj (by rw [e]; exact List.mem_cons_self)
/-! ### a tree of one's own is given away for good -/
theorem frz_sem {o : O} {run : Sl → Out D} (h : tE K G W (.v .fz) M run σ H Q) : tE K G W (.v o) M run σ H Q := by
  obtain ⟨st, R, F, r, h⟩ := h
  refine ⟨st, R, F, r, ?_⟩
  cases e : run st with
  | bad => rw [e] at h; exact h
  | exc c st1 => rw [e] at h; exact h
  | ok d st1 =>
    rw [e] at h
    intro v R1 F1 H1 f1 r1 p1 s1 q1
    have dm := RpT.dom p1
    have sub : Sub R1 (fun a => if a ∈ f1 then H1 a else R1 a) := fun a u eu => by
      show (if a ∈ f1 then H1 a else R1 a) = some u
      split
      · exact r1.sub a u eu
      · exact eu
    refine h v (fun a => if a ∈ f1 then H1 a else R1 a) F1 H1 [] ⟨r1.len, fun i d' e' => ?_, r1.em, r1.nd, r1.dj, fun a u eu => ?_, fun i a ha => ?_⟩ ⟨?_, rfl⟩
      ⟨s1.un, fun a ha => s1.org a (by rcases ha with ha | ha; cases ha; exact .inr ha), s1.fr, s1.kp, s1.ex.trans sub, fun a u eu => ?_, fun _ h => (nomatch h), List.nodup_nil, fun _ h => (nomatch h)⟩ q1
    · obtain ⟨w, e1, e2⟩ := r1.sl i d' e'
      exact ⟨w, e1, RpO.stay sub _ _ _ _ e2 fun _ _ _ e => e⟩
    · have eu' : (if a ∈ f1 then H1 a else R1 a) = some u := eu
      split at eu'
      · exact eu'
      · exact r1.sub a u eu'
    · show (if a ∈ f1 then H1 a else R1 a) = none
      rw [if_neg fun z => s1.dj a z i ha]
      exact r1.off i a ha
    · refine RpO.rep sub _ _ _ _ p1 fun a ha u eu => ?_
      show (if a ∈ f1 then H1 a else R1 a) = some u
      rw [if_pos ha]
      exact eu
    · have eu' : (if a ∈ f1 then H1 a else R1 a) = some u := eu
      split at eu'
      · rename_i ha
        exact .inr (s1.org a (.inl ha))
      · exact s1.ro a u eu'
/-! ### behind an operation -/
theorem Rel.op (r : Rel K G σ st R H F) (p : OpPost R H f R2 H2 f2) (ap : ∀ a ∈ f, ∀ i, a ∉ F i) : Rel K G σ st R2 H2 F :=
  ⟨r.len, fun i d e => (by
    obtain ⟨v, h1, h2⟩ := r.sl i d e
    exact ⟨v, h1, RpO.stay p.ex _ _ _ _ h2 fun a _ u eu => p.hk a u eu⟩), r.em, r.nd, r.dj, p.sub, fun i a ha => (by
    cases e : R2 a with
    | none => rfl
    | some u =>
      rcases p.ro a u e with z | z | z
      · rw [r.off i a ha] at z; cases z
      · exact absurd ha (ap a z i)
      · obtain ⟨u', e'⟩ := r.dom ha
        rw [z] at e'; cases e')⟩
theorem Stp.op (r1 : Rel K G σ st1 R1 H1 F1) (s : Stp M R F H R1 F1 H1 f) (p : OpPost R1 H1 f R2 H2 f2) : Stp M R F H R2 F1 H2 f2 where
  un := s.un
  org := fun a h => by
    rcases h with h | h
    · rcases p.fo a h with z | z
      · exact s.org a (.inl z)
      · exact .inr (s.kp a z)
    · exact s.org a (.inr h)
  fr := fun a u e k => p.hk a u (s.fr a u e k)
  kp := fun a e => s.kp a (by
    cases e2 : H1 a with
    | none => rfl
    | some u => rw [p.hk a u e2] at e; cases e)
  ex := s.ex.trans p.ex
  ro := fun a u e => by
    rcases p.ro a u e with z | z | z
    · exact s.ro a u z
    · exact .inr (s.org a (.inl z))
    · exact .inr (.inr (s.kp a z))
  dj := fun a h i z => by
    rcases p.fo a h with q | q
    · exact s.dj a q i z
    · obtain ⟨u, e⟩ := r1.dom z
      rw [q] at e
      cases e
  nd := p.nd
  off := p.off
theorem opN_sem {o : Op} {tys : List Ty} {runs : Sl → Out (List D)} (ht : tyOp o tys = some ty)
    (h : tE K G W ty M (fun st => (runs st).bind fun ds st1 => match sem o ds with | some d => .ok d st1 | none => .bad) σ H Q) : tA K G W tys M runs σ H fun vs H1 => rOp K o vs H1 Q := by
  obtain ⟨st, R, F, r, h⟩ := h
  refine ⟨st, R, F, r, ?_⟩
  cases e : runs st with
  | bad =>
    simp only [e, Out.bind] at h
    exact h
  | exc c st1 =>
    simp only [e, Out.bind] at h
    exact h
  | ok ds st1 =>
    simp only [e, Out.bind] at h
    intro vs R1 F1 H1 f1 r1 p1 s1 q1
    cases e2 : sem o ds with
    | none =>
      simp only [e2] at h
      exact h.elim
    | some d =>
      simp only [e2] at h
      refine op_sem r1 p1 s1.nd s1.off ht e2 fun v R2 H2 f2 op rt => ?_
      exact h v R2 F1 H2 f2 (r1.op op s1.dj) rt (s1.op r1 op) q1
/-! ### and, or -/
theorem bl_of (p : RpT K σ R H F t (.bl b) v f) (h : sr t = true) : v = .bl b := by
  cases t with
  | sc => exact p.2.1
  | v o => exact (RpO.scal_fp p rfl).1
  | pk i o =>
    obtain ⟨_, g, p, _⟩ := p
    exact (RpO.scal_fp p rfl).1
  | rf i => cases h
theorem int_of {b : Int} (p : RpT K σ R H F t (.int b) v f) (h : sr t = true) : v = .int b := by
  cases t with
  | sc => exact p.2.1
  | v o => exact (RpO.scal_fp p rfl).1
  | pk i o =>
    obtain ⟨_, g, p, _⟩ := p
    exact (RpO.scal_fp p rfl).1
  | rf i => cases h
theorem and_sem {a b : E} {t u : Ty} (h1 : sr t = true) (h2 : sr u = true) (h : tE K G W .sc (M1 ++ M2) (evE cl (.and_ a b)) σ H Q) :
    tE K G W t M1 (evE cl a) σ H fun x H1 => ∃ c, x = .bl c ∧ if c = true then tE K G W u M2 (evE cl b) σ H1 (fun y H2 => ∃ c', y = .bl c' ∧ Q (.bl c') H2) else Q (.bl false) H1 := by
  obtain ⟨st, R, F, r, h⟩ := h
  refine ⟨st, R, F, r, ?_⟩
  unfold evE at h
  split at h
  · rename_i st1 e
    rw [e]
    intro v R1 F1 H1 f1 r1 p1 s1 q1
    refine ⟨true, bl_of p1 h1, ?_⟩
    rw [if_pos rfl]
    refine ⟨st1, R1, F1, r1, ?_⟩
    split at h
    · rename_i c st2 e2
      rw [e2]
      intro v2 R2 F2 H2 f2 r2 p2 s2 q2
      refine ⟨c, bl_of p2 h2, h _ R2 F2 H2 [] r2 ⟨rfl, rfl, rfl⟩ (s1.trans s2.drop) fun i hi => ?_⟩
      rw [List.mem_append, not_or] at hi
      rw [q2 i hi.2, q1 i hi.1]
    · rename_i c st2 e2
      rw [e2]
      intro R2 F2 H2 r2 s2 q2
      refine h R2 F2 H2 r2 (s1.trans s2) fun i hi => ?_
      rw [List.mem_append, not_or] at hi
      rw [q2 i hi.2, q1 i hi.1]
    · exact h.elim
  · rename_i st1 e
    rw [e]
    intro v R1 F1 H1 f1 r1 p1 s1 q1
    refine ⟨false, bl_of p1 h1, ?_⟩
    rw [if_neg Bool.false_ne_true]
    exact h _ R1 F1 H1 [] r1 ⟨rfl, rfl, rfl⟩ (s1.drop.weak fun i hi => List.mem_append_left _ hi) fun i hi => q1 i fun z => hi (List.mem_append_left _ z)
  · rename_i c st1 e
    rw [e]
    intro R1 F1 H1 r1 s1 q1
    exact h R1 F1 H1 r1 (s1.weak fun i hi => List.mem_append_left _ hi) fun i hi => q1 i fun z => hi (List.mem_append_left _ z)
  · exact h.elim
theorem or_sem {a b : E} {t u : Ty} (h1 : sr t = true) (h2 : sr u = true) (h : tE K G W .sc (M1 ++ M2) (evE cl (.or_ a b)) σ H Q) :
    tE K G W t M1 (evE cl a) σ H fun x H1 => ∃ c, x = .bl c ∧ if c = true then Q (.bl true) H1 else tE K G W u M2 (evE cl b) σ H1 (fun y H2 => ∃ c', y = .bl c' ∧ Q (.bl c') H2) := by
  obtain ⟨st, R, F, r, h⟩ := h
  refine ⟨st, R, F, r, ?_⟩
  unfold evE at h
  split at h
  · rename_i st1 e
    rw [e]
    intro v R1 F1 H1 f1 r1 p1 s1 q1
    refine ⟨false, bl_of p1 h1, ?_⟩
    rw [if_neg Bool.false_ne_true]
    refine ⟨st1, R1, F1, r1, ?_⟩
    split at h
    · rename_i c st2 e2
      rw [e2]
      intro v2 R2 F2 H2 f2 r2 p2 s2 q2
      refine ⟨c, bl_of p2 h2, h _ R2 F2 H2 [] r2 ⟨rfl, rfl, rfl⟩ (s1.trans s2.drop) fun i hi => ?_⟩
      rw [List.mem_append, not_or] at hi
      rw [q2 i hi.2, q1 i hi.1]
    · rename_i c st2 e2
      rw [e2]
      intro R2 F2 H2 r2 s2 q2
      refine h R2 F2 H2 r2 (s1.trans s2) fun i hi => ?_
      rw [List.mem_append, not_or] at hi
      rw [q2 i hi.2, q1 i hi.1]
    · exact h.elim
  · rename_i st1 e
    rw [e]
    intro v R1 F1 H1 f1 r1 p1 s1 q1
    refine ⟨true, bl_of p1 h1, ?_⟩
    rw [if_pos rfl]
    exact h _ R1 F1 H1 [] r1 ⟨rfl, rfl, rfl⟩ (s1.drop.weak fun i hi => List.mem_append_left _ hi) fun i hi => q1 i fun z => hi (List.mem_append_left _ z)
  · rename_i c st1 e
    rw [e]
    intro R1 F1 H1 r1 s1 q1
    exact h R1 F1 H1 r1 (s1.weak fun i hi => List.mem_append_left _ hi) fun i hi => q1 i fun z => hi (List.mem_append_left _ z)
  · exact h.elim
theorem join_l {t u ty : Ty} (h : join t u = some ty) (p : RpT K σ R H F t d v f) : RpT K σ R H F ty d v f := by
  unfold join at h
  split at h
  · rename_i e
    cases h
    exact p
  · split at h
    · cases h
      exact RpT.sc_to p
    · cases h
      exact p
    · cases h
theorem join_r {t u ty : Ty} (h : join t u = some ty) (p : RpT K σ R H F u d v f) : RpT K σ R H F ty d v f := by
  unfold join at h
  split at h
  · rename_i e
    cases h
    rw [e]
    exact p
  · split at h
    · cases h
      exact p
    · cases h
      exact RpT.sc_to p
    · cases h
theorem ite_sem {c a b : E} {s t u : Ty} {M3 : List Nat} (h1 : sr s = true) (hj : join t u = some ty) (h : tE K G W ty (M1 ++ (M2 ++ M3)) (evE cl (.ite c a b)) σ H Q) :
    tE K G W s M1 (evE cl c) σ H fun x H1 => ∃ k, x = .bl k ∧ if k = true then tE K G W t M2 (evE cl a) σ H1 Q else tE K G W u M3 (evE cl b) σ H1 Q := by
  obtain ⟨st, R, F, r, h⟩ := h
  refine ⟨st, R, F, r, ?_⟩
  unfold evE at h
  split at h
  · rename_i st1 e
    rw [e]
    intro v R1 F1 H1 f1 r1 p1 s1 q1
    refine ⟨true, bl_of p1 h1, ?_⟩
    rw [if_pos rfl]
    refine ⟨st1, R1, F1, r1, ?_⟩
    cases e2 : evE cl a st1 with
    | bad => rw [e2] at h; exact h
    | exc k st2 =>
      rw [e2] at h
      intro R2 F2 H2 r2 s2 q2
      refine h R2 F2 H2 r2 ((s1.trans s2).weak fun i hi => ?_) fun i hi => ?_
      · rw [List.mem_append] at hi
        rw [List.mem_append, List.mem_append]
        rcases hi with hi | hi
        · exact .inl hi
        · exact .inr (.inl hi)
      · rw [List.mem_append, List.mem_append, not_or, not_or] at hi
        rw [q2 i hi.2.1, q1 i hi.1]
    | ok d st2 =>
      rw [e2] at h
      intro v2 R2 F2 H2 f2 r2 p2 s2 q2
      refine h v2 R2 F2 H2 f2 r2 (join_l hj p2) ((s1.trans s2).weak fun i hi => ?_) fun i hi => ?_
      · rw [List.mem_append] at hi
        rw [List.mem_append, List.mem_append]
        rcases hi with hi | hi
        · exact .inl hi
        · exact .inr (.inl hi)
      · rw [List.mem_append, List.mem_append, not_or, not_or] at hi
        rw [q2 i hi.2.1, q1 i hi.1]
  · rename_i st1 e
    rw [e]
    intro v R1 F1 H1 f1 r1 p1 s1 q1
    refine ⟨false, bl_of p1 h1, ?_⟩
    rw [if_neg Bool.false_ne_true]
    refine ⟨st1, R1, F1, r1, ?_⟩
    cases e2 : evE cl b st1 with
    | bad => rw [e2] at h; exact h
    | exc k st2 =>
      rw [e2] at h
      intro R2 F2 H2 r2 s2 q2
      refine h R2 F2 H2 r2 ((s1.trans s2).weak fun i hi => ?_) fun i hi => ?_
      · rw [List.mem_append] at hi
        rw [List.mem_append, List.mem_append]
        rcases hi with hi | hi
        · exact .inl hi
        · exact .inr (.inr hi)
      · rw [List.mem_append, List.mem_append, not_or, not_or] at hi
        rw [q2 i hi.2.2, q1 i hi.1]
    | ok d st2 =>
      rw [e2] at h
      intro v2 R2 F2 H2 f2 r2 p2 s2 q2
      refine h v2 R2 F2 H2 f2 r2 (join_r hj p2) ((s1.trans s2).weak fun i hi => ?_) fun i hi => ?_
      · rw [List.mem_append] at hi
        rw [List.mem_append, List.mem_append]
        rcases hi with hi | hi
        · exact .inl hi
        · exact .inr (.inr hi)
      · rw [List.mem_append, List.mem_append, not_or, not_or] at hi
        rw [q2 i hi.2.2, q1 i hi.1]
  · rename_i c st1 e
    rw [e]
    intro R1 F1 H1 r1 s1 q1
    exact h R1 F1 H1 r1 (s1.weak fun i hi => List.mem_append_left _ hi) fun i hi => q1 i fun z => hi (List.mem_append_left _ z)
  · exact h.elim
end
end Mini

/-! Mini, part 15: chains, calls, methods. -/
namespace Mini
open PySem (Expr Stmt Operator CmpOp UnaryOp BoolOp Const Pos Scope NameKind Addr)
open PySem PyProof.Rows
open L2
def rcm : Op → R2
  | .lt => rI0 fun i j => .bl (decide (i < j))
  | .le => rI0 fun i j => .bl (decide (i ≤ j))
  | .gt => rI0 fun i j => .bl (decide (j < i))
  | .ge => rI0 fun i j => .bl (decide (j ≤ i))
  | _ => fun _ _ _ _ => False
theorem rcm_of {o : Op} {g : Int → Int → Bool} (h : ocmp o = some g) {i j : Int} {H : Hp} {Q : VK} (q : Q (.bl (g i j)) H) : rcm o (.int i) (.int j) H Q := by
  unfold ocmp at h
  split at h
  all_goals first
    | (cases h; exact ⟨i, j, rfl, rfl, q⟩)
    | cases h
def WEx (cls : Nat → Value) (W : WW) : L2.St → XK := fun σ v d H => ∃ c, v = cls c ∧ d = none ∧ W c σ H
section
variable {K : PySem.W.Frag} {G : Nat → O} {W : WW} {σ σ' : L2.St} {st st' st1 : Sl} {R H R' H' R1 H1 R2 H2 : Hp} {F F' F1 F2 : Nat → List Addr} {M M1 M2 M3 P : List Nat} {f f1 f2 g : List Addr} {ty t : Ty} {d : D} {v : V} {ds : List D} {vs : List V} {Q : VK} {cl : Nat → List D → CO} {cls : Nat → Value}
theorem ch_sem {o1 o2 : Op} {a b c : E} {s t u : Ty} (h1 : sr s = true) (h2 : sr t = true) (h3 : sr u = true) (h : tE K G W .sc (M1 ++ (M2 ++ M3)) (evE cl (.ch o1 o2 a b c)) σ H Q) :
    tChain (rcm o1) (rcm o2) (tE K G W s M1 (evE cl a)) (tE K G W t M2 (evE cl b)) (tE K G W u M3 (evE cl c)) σ H Q := by
  obtain ⟨st, R, F, r, h⟩ := h
  refine ⟨st, R, F, r, ?_⟩
  unfold evE at h
  cases e1 : evE cl a st with
  | bad => simp only [e1, Out.bind] at h; exact h
  | exc k st1 =>
    simp only [e1, Out.bind] at h
    exact fun R1 F1 H1 r1 s1 q1 => h R1 F1 H1 r1 (s1.weak fun i hi => List.mem_append_left _ hi) fun i hi => q1 i fun z => hi (List.mem_append_left _ z)
  | ok x st1 =>
    simp only [e1, Out.bind] at h
    intro v R1 F1 H1 f1 r1 p1 s1 q1
    refine ⟨st1, R1, F1, r1, ?_⟩
    cases e2 : evE cl b st1 with
    | bad => simp only [e2] at h; exact h
    | exc k st2 =>
      simp only [e2] at h
      intro R2 F2 H2 r2 s2 q2
      refine h R2 F2 H2 r2 ((s1.trans s2).weak fun i hi => ?_) fun i hi => ?_
      · rw [List.mem_append] at hi
        rw [List.mem_append, List.mem_append]
        exact hi.elim .inl fun z => .inr (.inl z)
      · rw [List.mem_append, List.mem_append, not_or, not_or] at hi
        rw [q2 i hi.2.1, q1 i hi.1]
    | ok y st2 =>
      simp only [e2] at h
      intro w R2 F2 H2 f2 r2 p2 s2 q2
      split at h
      · rename_i i j gg eo
        have ev := int_of p1 h1
        have ew := int_of p2 h2
        subst ev ew
        refine rcm_of eo ?_
        refine ⟨gg i j, rfl, ?_⟩
        have s12 : Stp (M1 ++ M2) R F H R2 F2 H2 [] := s1.trans s2.drop
        split at h
        · rename_i hg
          rw [if_pos hg]
          refine ⟨st2, R2, F2, r2, ?_⟩
          cases e3 : evE cl c st2 with
          | bad => simp only [e3] at h; exact h
          | exc k st3 =>
            simp only [e3] at h
            intro R3 F3 H3 r3 s3 q3
            refine h R3 F3 H3 r3 ((s12.trans s3).weak fun i hi => by rw [List.append_assoc] at hi; exact hi) fun i hi => ?_
            rw [List.mem_append, List.mem_append, not_or, not_or] at hi
            rw [q3 i hi.2.2, q2 i hi.2.1, q1 i hi.1]
          | ok z st3 =>
            simp only [e3] at h
            intro w3 R3 F3 H3 f3 r3 p3 s3 q3
            split at h
            · rename_i k g2 eo2
              have e3' := int_of p3 h3
              subst e3'
              refine rcm_of eo2 (h _ R3 F3 H3 [] r3 ⟨rfl, rfl, rfl⟩ ((s12.trans s3.drop).weak fun i hi => by rw [List.append_assoc] at hi; exact hi) fun i hi => ?_)
              rw [List.mem_append, List.mem_append, not_or, not_or] at hi
              rw [q3 i hi.2.2, q2 i hi.2.1, q1 i hi.1]
            · exact h.elim
        · rename_i hg
          rw [if_neg hg]
          refine h _ R2 F2 H2 [] r2 ⟨rfl, rfl, rfl⟩ (s12.weak fun i hi => ?_) fun i hi => ?_
          · rw [List.mem_append] at hi
            rw [List.mem_append, List.mem_append]
            exact hi.elim .inl fun z => .inr (.inl z)
          · rw [List.mem_append, List.mem_append, not_or, not_or] at hi
            rw [q2 i hi.2.1, q1 i hi.1]
      · exact h.elim
/-! ### calls -/
theorem ca_of {C : SC} {K : PySem.W.Frag} {tys : List Ty} {vs : List V} {ds : List D} (r : Rel K C.g σ st R H F) (p : RpTs K σ R H F tys ds vs f) : ∀ {os : List O} {rs : List (Option Nat)} {ds1 : List D}, argsOk C os tys = true → rs = tys.map tyRef → fill rs ds st = some ds1 →
    ∃ Fs, CA K σ st R H F os rs ds1 vs Fs f := by
  induction p with
  | nil =>
    intro os rs ds1 ha hr hf
    subst hr
    cases hf
    cases os with
    | nil => exact ⟨[], .nil⟩
    | cons _ _ => cases ha
  | @cons t ts d ds v vs f g a b ih =>
    intro os rs ds1 ha hr hf
    subst hr
    cases os with
    | nil => cases ha
    | cons o os =>
      have ha' : (argOk C o t && argsOk C os ts) = true := ha
      rw [Bool.and_eq_true] at ha'
      have nonref : tyRef t = none → RpO K R H o d v f → fill (none :: ts.map tyRef) (d :: ds) st = some ds1 → ∃ Fs, CA K σ st R H F (o :: os) (none :: ts.map tyRef) ds1 (v :: vs) Fs (f ++ g) := fun _ ho hf => by
        have hf' : (fill (ts.map tyRef) ds st).map (d :: ·) = some ds1 := hf
        cases e : fill (ts.map tyRef) ds st with
        | none => rw [e] at hf'; cases hf'
        | some r2 =>
          rw [e] at hf'
          cases hf'
          obtain ⟨Fs, c⟩ := ih ha'.2 rfl e
          exact ⟨_, .val ho c⟩
      cases t with
      | sc =>
        have ho : o = .fz := by
          have := ha'.1
          cases o <;> first | rfl | cases this
        subst ho
        exact nonref rfl ⟨a.2.1, a.2.2⟩ hf
      | v q =>
        have ho : q = o := of_decide_eq_true ha'.1
        subst ho
        exact nonref rfl a hf
      | pk i q => cases ha'.1
      | rf j =>
        have h1 := ha'.1
        have h1' : (own o && decide (C.g j = o)) = true := h1
        rw [Bool.and_eq_true] at h1'
        have hg : C.g j = o := of_decide_eq_true h1'.2
        obtain ⟨rfl, hs⟩ := a
        have hf' : (match get st j, fill (ts.map tyRef) ds st with
          | some d, some r => some (d :: r)
          | _, _ => none) = some ds1 := hf
        split at hf'
        · rename_i d' r' e1 e2
          cases hf'
          obtain ⟨Fs, c⟩ := ih ha'.2 rfl e2
          obtain ⟨w, hw, q⟩ := r.sl j d' e1
          rw [hs] at hw
          cases hw
          rw [hg] at q
          exact ⟨_, .ref e1 hs q c⟩
        · cases hf'
theorem ref_of {C : SC} : ∀ {os : List O} {tys : List Ty} {k j : Nat}, argsOk C os tys = true → (tys.map tyRef)[k]? = some (some j) → C.g j = os.getD k .fz
  | [], [], _, _, _, h => by simp at h
  | o :: os, t :: ts, k, j, ha, h => by
    have ha' : (argOk C o t && argsOk C os ts) = true := ha
    rw [Bool.and_eq_true] at ha'
    cases k with
    | zero =>
      have h' : tyRef t = some j := by simpa using h
      cases t with
      | rf i =>
        have ij : i = j := Option.some.inj h'
        subst ij
        have h1 : (own o && decide (C.g i = o)) = true := ha'.1
        rw [Bool.and_eq_true] at h1
        exact of_decide_eq_true h1.2
      | _ => cases h'
    | succ k => exact ref_of (os := os) (tys := ts) (k := k) ha'.2 (by simpa using h)
  | [], _ :: _, _, _, ha, _ => by cases ha
  | _ :: _, [], _, _, ha, _ => by cases ha
theorem call_sem {C : SC} {fd : FD} {n : Nat} {as : Es} {tys : List Ty} (hn : as.len = fd.np) (hg : (fd.G.take fd.np).length = fd.np) (ha : argsOk C (fd.G.take fd.np) tys = true) (hr : refs as = tys.map tyRef) (hd : distinct (refL (refs as)) = true)
    (hlen : ∀ (vs : List V), vs.length = fd.np → (fd.G.take fd.np).length = vs.length)
    (h : tE K C.g W (.v fd.ret) (M ++ refL (refs as)) (evE cl (.call n as)) σ H Q) : tA K C.g W tys M (evEs cl as) σ H fun vs H1 => spF K cl cls fd n vs H1 Q (WEx cls W σ) := by
  obtain ⟨st, R, F, r, h⟩ := h
  refine ⟨st, R, F, r, ?_⟩
  unfold evE at h
  cases e1 : evEs cl as st with
  | bad => simp only [e1, Out.bind] at h; exact h
  | exc k st1 =>
    simp only [e1, Out.bind] at h
    exact fun R1 F1 H1 r1 s1 q1 => h R1 F1 H1 r1 (s1.weak fun i hi => List.mem_append_left _ hi) fun i hi => q1 i fun z => hi (List.mem_append_left _ z)
  | ok ds st1 =>
    simp only [e1, Out.bind] at h
    intro vs R1 F1 H1 f1 r1 p1 s1 q1
    cases e2 : fill (refs as) ds st1 with
    | none => simp only [e2] at h; exact h.elim
    | some ds1 =>
      simp only [e2] at h
      obtain ⟨Fs, c⟩ := ca_of r1 p1 (os := fd.G.take fd.np) ha hr e2
      obtain ⟨l1, l2, l3, l4⟩ := c.vlen
      have gfE : ∀ i, i < (fd.G.take fd.np).length → gf fd i = (fd.G.take fd.np).getD i .fz := fun i hi => by
        unfold gf
        rw [List.getD_eq_getElem?_getD, List.getD_eq_getElem?_getD, List.getElem?_take_of_lt (by rw [hg] at hi; exact hi)]
      have rel := c.rel r1 hd s1.nd s1.dj s1.off (gf fd) gfE
      refine ⟨by rw [l1, hg], ds1, R1, fun i => Fs.getD i [], by rw [l2, hg], rel, ?_⟩
      have hG : ∀ k j, (refs as)[k]? = some (some j) → C.g j = gf fd k := fun k j e => by
        have lt : k < (fd.G.take fd.np).length := by
          rw [← l4]
          exact (List.getElem?_eq_some_iff.mp e).1
        rw [gfE k lt]
        rw [hr] at e
        exact ref_of (tys := tys) (j := j) (k := k) ha e
      cases e3 : cl n ds1 with
      | bad => simp only [e3] at h; exact h.elim
      | exc k os =>
        simp only [e3] at h
        intro R2 Fc H2 rc tc
        obtain ⟨rb, sb⟩ := call_back c r1 s1 p1.dom hd hG rc (by rw [hg]; exact tc)
        refine ⟨k, rfl, rfl, h R2 _ H2 rb sb fun i hi => ?_⟩
        rw [List.mem_append, not_or] at hi
        rw [backR_out hi.2, q1 i hi.1]
      | ok d os =>
        simp only [e3] at h
        intro v R2 Fc H2 gg rc po tc
        obtain ⟨rb, sb⟩ := call_back c r1 s1 p1.dom hd hG rc (by rw [hg]; exact tc)
        refine h v R2 _ H2 gg rb po sb fun i hi => ?_
        rw [List.mem_append, not_or] at hi
        rw [backR_out hi.2, q1 i hi.1]
/-! ### methods -/
def rCntD (K : PySem.W.Frag) : V → List V → Hp → VK → Prop := fun x xs H Q => ∃ (a : Addr) (y : V) (d : PySem.PyData) (ds : List PySem.PyData), x = V.ref a ∧ xs = [y] ∧ Dp K H (V.ref a) (.list ds) ∧ Dp K H y d ∧
  PySem.SeqAt.shaped (.list ds) = true ∧ PySem.SeqAt.shaped d = true ∧ Q (.int (ds.countP fun z => PySem.PyData.eqv z d : Nat)) H
theorem mt_countD {X : Cx} (hu : X.A.units + 65 < cLine) : MtR X "list.count" (rCntD X.K) := by
  intro pins s σ H x xs v us Q I rx rxs h
  obtain ⟨a, y, d, ds, rfl, rfl, hl, hy, sl, sd, q⟩ := h
  cases rx
  cases rxs with
  | cons ry rt =>
    rename_i uy ut
    cases rt
    obtain ⟨bs, r1⟩ := Dp.reads I d y uy hy ry
    have hxs : PyData.canLayAll0 ds = true := SeqAt.canLay_of_shaped sl
    have hroom : X.A.units + 1 + min (PyData.depthAll ds) d.depth < cLine := room_in_shaped sd hu
    cases hl with
    | lst hs ha =>
      obtain ⟨its, rv, ⟨⟨cls, dd, data, sls⟩, n, ho, hc, hdn, hdt⟩, hlen⟩ := I.list hs
      simp only at hc hdt
      subst hc hdt
      obtain ⟨as, h4⟩ := Dp.readsAll I ds _ its ha rv
      have hmap : its.map (SeqAt.readOf s.heap) = ds := SeqAt.readsAll_map ds its as hxs h4
      refine call_meets PySem.F.slot_list_count ⟨_, ho, rfl⟩ PySem.F.entry_list_count (PySem.F.args_list_count_2 _ _)
        (SeqAt.list_countAt a its.toArray n dd sls uy (fun u => PyData.eqv (SeqAt.readOf s.heap u) d)) ⟨ho, SeqAt.items_eqAt (vs := its.toArray) (show ReadsAll s.heap its.toArray.toList ds as from h4) r1 hxs (SeqAt.canLay_of_shaped sd) hroom, ?_⟩
      have ec : its.toArray.toList.countP (fun u => PyData.eqv (SeqAt.readOf s.heap u) d) = ds.countP fun z => PyData.eqv z d := by
        rw [← hmap, List.countP_map]
        rfl
      refine ⟨.int (ds.countP fun z => PyData.eqv z d : Nat), H, I.tok _, ⟨s.toks, ?_⟩, q⟩
      show Value.int ((its.toArray.toList.countP _ : Nat) : Int) s.toks = Value.int _ s.toks
      rw [ec]
theorem bm_sem {m : Bm} {a : E} {as : Es} {t : Ty} {tys : List Ty} {T : TA} (ht : tyBm m t tys = some ty) (hp : pkOut t M2 = true) (hT : ∀ σ H (Q : List V → Hp → Prop), tA K G W tys M2 (evEs cl as) σ H Q → T σ H Q)
    (h : tE K G W ty (M1 ++ M2) (evE cl (.bm m a as)) σ H Q) : tE K G W t M1 (evE cl a) σ H fun x H1 => tyV K "list" x H1 ∧ T σ H1 fun xs H2 => rCntD K x xs H2 Q := by
  obtain ⟨st, R, F, r, h⟩ := h
  refine ⟨st, R, F, r, ?_⟩
  unfold evE at h
  cases e1 : evE cl a st with
  | bad => simp only [e1, Out.bind] at h; exact h
  | exc k st1 =>
    simp only [e1, Out.bind] at h
    exact fun R1 F1 H1 r1 s1 q1 => h R1 F1 H1 r1 (s1.weak fun i hi => List.mem_append_left _ hi) fun i hi => q1 i fun z => hi (List.mem_append_left _ z)
  | ok d st1 =>
    simp only [e1, Out.bind] at h
    intro v R1 F1 H1 f1 r1 p1 s1 q1
    cases hrec : recM m d with
    | false => simp only [hrec] at h; exact h.elim
    | true =>
      simp only [hrec, if_true] at h
      cases m with
      | cnt =>
        cases d with
        | lst xs =>
          have ht' : (if (sr t && tys.all sr) = true then some Ty.sc else none) = some ty := ht
          split at ht'
          · rename_i hs
            cases ht'
            rw [Bool.and_eq_true] at hs
            have notrf : ∀ i, t ≠ .rf i := fun i e => by
              rw [e] at hs
              cases hs.1
            obtain ⟨p, us, rfl, hq, hl⟩ := p1.rep r1 notrf
            refine ⟨.inl ⟨rfl, us, .inl (.inl hq)⟩, hT _ _ _ ⟨st1, R1, F1, r1, ?_⟩⟩
            cases e2 : evEs cl as st1 with
            | bad => simp only [e2] at h; exact h
            | exc k st2 =>
              simp only [e2] at h
              intro R2 F2 H2 r2 s2 q2
              refine h R2 F2 H2 r2 (s1.trans s2) fun i hi => ?_
              rw [List.mem_append, not_or] at hi
              rw [q2 i hi.2, q1 i hi.1]
            | ok ds st2 =>
              simp only [e2] at h
              intro vs R2 F2 H2 f2 r2 p2 s2 q2
              cases e3 : semM .cnt (.lst xs) ds with
              | none => simp only [e3] at h; exact h.elim
              | some dd =>
                simp only [e3] at h
                have p1' := (RpT.step r1 p1 s1.dj s2 hp).rep r2 notrf
                have rr := p2.rep r2 hs.2
                unfold semM at e3
                split at e3
                · rename_i _ _ xs' y _ e4
                  cases e4
                  obtain ⟨w, _, rfl, rw_, rfl⟩ := rr
                  split at e3
                  · rename_i pds pd e5 e6
                    split at e3
                    · rename_i hsh
                      rw [Bool.and_eq_true] at hsh
                      cases e3
                      refine ⟨p, w, pd, pds, rfl, rfl, Rep.dp (.lst xs) (.ref p) _ p1' ?_, Rep.dp _ _ _ rw_ e6, hsh.1, hsh.2, h _ R2 F2 H2 [] r2 ⟨rfl, rfl, rfl⟩ (s1.trans s2.drop) fun i hi => ?_⟩
                      · unfold D.py
                        rw [e5]
                        rfl
                      · rw [List.mem_append, not_or] at hi
                        rw [q2 i hi.2, q1 i hi.1]
                    · cases e3
                  · cases e3
                · cases e3
          · cases ht'
        | _ => cases hrec
end
end Mini

/-! Mini, part 16: a list of one's own is written; pop; comprehensions. -/
namespace Mini
open PySem (Expr Stmt Operator CmpOp UnaryOp BoolOp Const Pos Scope NameKind Addr)
open PySem PyProof.Rows
open L2
section
variable {K : PySem.W.Frag} {G : Nat → O} {W : WW} {σ σ' : L2.St} {st st' st1 : Sl} {R H R' H' R1 H1 R2 H2 : Hp} {F F' F1 F2 : Nat → List Addr} {M M1 M2 M3 P : List Nat} {f f1 f2 f3 g g' : List Addr} {ty t : Ty} {d : D} {v : V} {ds ds' : List D} {vs vs' : List V} {Q : VK} {cl : Nat → List D → CO} {c k : O} {p : Addr} {i : Nat}
def wF (F : Nat → List Addr) (i : Nat) (g : List Addr) : Nat → List Addr := fun k => if k = i then g else F k
theorem wF_same : wF F i g i = g := if_pos rfl
theorem wF_ne {j : Nat} (h : j ≠ i) : wF F i g j = F j := if_neg h
theorem upd_stay {u : HO} (hp : p ∉ f) : ∀ a ∈ f, ∀ w, H a = some w → upd H p u a = some w := fun a ha w e => by
  rw [upd_ne fun z => hp (by rw [← z]; exact ha)]
  exact e
theorem Rel.wr (r : Rel K G σ st R H F) (hG : G i = .lst c) (hs : σ[i]? = some (some (.ref p))) (hp : p ∈ F i) (q : All3 (RpO K R H c) ds' vs' g') (hpg : p ∉ g') (nd : g'.Nodup)
    (own : ∀ a ∈ g', a ∈ F i ∨ ((∀ k, a ∉ F k) ∧ R a = none)) : Rel K G σ (put st i (some (.lst ds'))) R (upd H p (.lst vs')) (wF F i (p :: g')) := by
  have hRp : R p = none := r.off i p hp
  refine ⟨by rw [len_put]; exact r.len, fun j d' e => ?_, fun j e => ?_, fun j => ?_, fun j k a h1 h2 => ?_, fun a u e => ?_, fun j a ha => ?_⟩
  · by_cases hj : j = i
    · subst hj
      have lt := get_lt e
      rw [len_put] at lt
      rw [get_put_same lt] at e
      cases e
      refine ⟨.ref p, hs, ?_⟩
      rw [hG, wF_same]
      exact .inr ⟨ds', p, vs', g', rfl, rfl, upd_same, q.imp fun d v f hf h => RpO.stay (Sub.refl R) _ _ _ _ h (upd_stay fun z => hpg (hf p z)), rfl⟩
    · rw [get_put_ne hj] at e
      obtain ⟨w, e1, e2⟩ := r.sl j d' e
      refine ⟨w, e1, ?_⟩
      rw [wF_ne hj]
      exact RpO.stay (Sub.refl R) _ _ _ _ e2 (upd_stay fun z => hj (r.dj _ _ _ z hp))
  · by_cases hj : j = i
    · subst hj
      have : ¬ j < st.length := fun lt => by
        rw [get_put_same lt] at e
        cases e
      have e2 := get_none (st := st) (i := j) (by omega)
      rw [r.em j e2] at hp
      cases hp
    · rw [get_put_ne hj] at e
      rw [wF_ne hj]
      exact r.em j e
  · by_cases hj : j = i
    · subst hj
      rw [wF_same]
      exact List.nodup_cons.mpr ⟨hpg, nd⟩
    · rw [wF_ne hj]
      exact r.nd j
  · by_cases hj : j = i
    · by_cases hk : k = i
      · rw [hj, hk]
      · subst hj
        rw [wF_same] at h1
        rw [wF_ne hk] at h2
        rcases List.mem_cons.mp h1 with rfl | h1
        · exact r.dj _ _ _ hp h2
        · rcases own a h1 with z | z
          · exact r.dj _ _ _ z h2
          · exact absurd h2 (z.1 k)
    · by_cases hk : k = i
      · subst hk
        rw [wF_same] at h2
        rw [wF_ne hj] at h1
        rcases List.mem_cons.mp h2 with rfl | h2
        · exact r.dj _ _ _ h1 hp
        · rcases own a h2 with z | z
          · exact r.dj _ _ _ h1 z
          · exact absurd h1 (z.1 j)
      · rw [wF_ne hj] at h1
        rw [wF_ne hk] at h2
        exact r.dj _ _ _ h1 h2
  · rw [upd_ne fun z => by rw [z, hRp] at e; cases e]
    exact r.sub a u e
  · by_cases hj : j = i
    · subst hj
      rw [wF_same] at ha
      rcases List.mem_cons.mp ha with rfl | ha
      · exact hRp
      · rcases own a ha with z | z
        · exact r.off _ a z
        · exact z.2
    · rw [wF_ne hj] at ha
      exact r.off _ a ha
theorem Stp.wr (r1 : Rel K G σ st1 R1 H1 F1) (s : Stp M R F H R1 F1 H1 f) (hp : p ∈ F1 i) (hg : ∀ a ∈ g', a ∈ F1 i ∨ a ∈ f) (hf : ∀ a ∈ f3, a ∈ F1 i ∨ a ∈ f) (nd : f3.Nodup) (ap : ∀ a ∈ f3, a ∉ p :: g') {u : HO} :
    Stp (M ++ [i]) R F H R1 (wF F1 i (p :: g')) (upd H1 p u) f3 := by
  have org1 : ∀ a, a ∈ F1 i → (∃ j, j ∈ M ++ [i] ∧ a ∈ F j) ∨ H a = none := fun a ha => by
    by_cases hi : i ∈ M
    · rcases s.org a (.inr ⟨i, hi, ha⟩) with ⟨j, hj, z⟩ | z
      · exact .inl ⟨j, List.mem_append_left _ hj, z⟩
      · exact .inr z
    · rw [s.un i hi] at ha
      exact .inl ⟨i, List.mem_append_right _ List.mem_cons_self, ha⟩
  have org2 : ∀ a, a ∈ f → (∃ j, j ∈ M ++ [i] ∧ a ∈ F j) ∨ H a = none := fun a ha => by
    rcases s.org a (.inl ha) with ⟨j, hj, z⟩ | z
    · exact .inl ⟨j, List.mem_append_left _ hj, z⟩
    · exact .inr z
  refine ⟨fun j hj => ?_, fun a h => ?_, fun a w e k => ?_, fun a e => ?_, s.ex, fun a w e => ?_, fun a ha j z => ?_, nd, fun a ha => ?_⟩
  · rw [List.mem_append, not_or, List.mem_singleton] at hj
    rw [wF_ne hj.2, s.un j hj.1]
  · rcases h with h | ⟨j, hj, h⟩
    · exact (hf a h).elim (org1 a) (org2 a)
    · by_cases e : j = i
      · subst e
        rw [wF_same] at h
        rcases List.mem_cons.mp h with rfl | h
        · exact org1 _ hp
        · exact (hg a h).elim (org1 a) (org2 a)
      · rw [wF_ne e] at h
        have hj' : j ∈ M := (List.mem_append.mp hj).resolve_right fun z => e (List.mem_singleton.mp z)
        rcases s.org a (.inr ⟨j, hj', h⟩) with ⟨l, hl, z⟩ | z
        · exact .inl ⟨l, List.mem_append_left _ hl, z⟩
        · exact .inr z
  · have ne : a ≠ p := fun z => by
      subst z
      rcases org1 a hp with ⟨j, hj, q⟩ | q
      · exact k j hj q
      · rw [q] at e
        cases e
    rw [upd_ne ne]
    exact s.fr a w e fun j hj => k j (List.mem_append_left _ hj)
  · refine s.kp a ?_
    by_cases z : a = p
    · subst z
      rw [upd_same] at e
      cases e
    · rw [upd_ne z] at e
      exact e
  · rcases s.ro a w e with z | ⟨j, hj, z⟩ | z
    · exact .inl z
    · exact .inr (.inl ⟨j, List.mem_append_left _ hj, z⟩)
    · exact .inr (.inr z)
  · by_cases e : j = i
    · subst e
      rw [wF_same] at z
      exact ap a ha z
    · rw [wF_ne e] at z
      rcases hf a ha with q | q
      · exact e (r1.dj _ _ _ z q)
      · exact s.dj a q j z
  · rcases hf a ha with q | q
    · exact r1.off i a q
    · exact s.off a q
theorem All3.erase {Pr : D → V → List Addr → Prop} {y : D} (h : All3 Pr ds vs g) : ∀ {j : Nat}, ds[j]? = some y → ∃ w fy gr, vs[j]? = some w ∧ Pr y w fy ∧ All3 Pr (ds.eraseIdx j) (vs.eraseIdx j) gr ∧ (fy ++ gr).Perm g := by
  induction h with
  | nil =>
    intro j e
    simp at e
  | @cons d v f ds vs g a b ih =>
    intro j e
    cases j with
    | zero =>
      simp at e
      subst e
      exact ⟨v, f, g, rfl, a, b, .refl _⟩
    | succ j =>
      obtain ⟨w, fy, gr, e1, e2, e3, e4⟩ := ih (j := j) (by simpa using e)
      refine ⟨w, fy, f ++ gr, by simpa using e1, e2, .cons a e3, ?_⟩
      refine List.Perm.trans ?_ (e4.append_left f)
      rw [← List.append_assoc, ← List.append_assoc]
      exact List.perm_append_comm.append_right gr
theorem pop_sem {a : E} (hG : G i = .lst c) (hr : sr t = true) (hi : i ∉ M) (h : tE K G W (.v c) (M ++ [i]) (evE cl (.pop i a)) σ H Q) :
    tVar i σ H fun x H1 => tyV K "list" x H1 ∧ tCons (tE K G W t M (evE cl a)) tNil σ H1 fun xs H2 => rPopAt x xs H2 Q := by
  obtain ⟨st, R, F, r, h⟩ := h
  unfold evE at h
  cases e0 : get st i with
  | none => rw [e0] at h; exact h.elim
  | some d0 =>
    cases d0 with
    | lst xs =>
      obtain ⟨v0, h1, h2⟩ := r.sl i _ e0
      rw [hG] at h2
      rcases h2 with ⟨z, _⟩ | ⟨_, p, vs, g, e, rfl, hp, q, hF⟩
      · cases z
      cases e
      refine ⟨.ref p, h1, .inl ⟨rfl, vs, .inl (.inl hp)⟩, st, R, F, r, ?_⟩
      simp only [e0, isLst, if_true] at h
      cases e1 : evE cl a st with
      | bad => simp only [e1, Out.bind] at h; exact h
      | exc k st1 =>
        simp only [e1, Out.bind] at h
        exact fun R1 F1 H1 r1 s1 q1 => h R1 F1 H1 r1 (s1.weak fun i hi => List.mem_append_left _ hi) fun i hi => q1 i fun z => hi (List.mem_append_left _ z)
      | ok kd st1 =>
        simp only [e1, Out.bind] at h
        intro kv R1 F1 H1 f1 r1 p1 s1 q1
        show rPopAt (.ref p) [kv] H1 Q
        have eg : get st1 i = some (.lst xs) := by rw [q1 i hi, e0]
        cases kd with
        | int k =>
          have := int_of p1 hr
          subst this
          simp only [eg] at h
          split at h
          · rename_i hk
            split at h
            · rename_i j ej
              split at h
              · rename_i y ey
                obtain ⟨w1, e1', e2'⟩ := r1.sl i _ eg
                rw [h1] at e1'
                cases e1'
                rw [hG] at e2'
                rcases e2' with ⟨z, _⟩ | ⟨_, p', vs1, g1, e, ep, hp1, q1', hF1⟩
                · cases z
                cases e
                cases ep
                obtain ⟨sj, _, _, _⟩ := ixN_seq ej
                obtain ⟨w, fy, gr, u1, u2, u3, u4⟩ := q1'.erase ey
                have ndF := r1.nd i
                rw [hF1] at ndF
                obtain ⟨n1, n2⟩ := List.nodup_cons.mp ndF
                have n3 := u4.nodup_iff.mpr n2
                obtain ⟨m1, m2, m3⟩ := List.nodup_append.mp n3
                have memL : ∀ a, a ∈ fy → a ∈ g1 := fun a ha => u4.mem_iff.mp (List.mem_append_left _ ha)
                have memR : ∀ a, a ∈ gr → a ∈ g1 := fun a ha => u4.mem_iff.mp (List.mem_append_right _ ha)
                have inF : ∀ a, a ∈ g1 → a ∈ F1 i := fun a ha => by rw [hF1]; exact List.mem_cons_of_mem _ ha
                have hpF : p ∈ F1 i := by rw [hF1]; exact List.mem_cons_self
                refine ⟨p, vs1, k, j, w, rfl, rfl, hp1, hk.1, hk.2, ?_, u1, h w R1 (wF F1 i (p :: gr)) (upd H1 p (.lst (vs1.eraseIdx j))) fy ?_ ?_ ?_ fun j' hj' => ?_⟩
                · rw [q1'.length]; exact sj
                · exact r1.wr hG h1 hpF u3 (fun z => n1 (memR p z)) m2 fun a ha => .inl (inF a (memR a ha))
                · exact RpO.stay (Sub.refl R1) _ _ _ _ u2 (upd_stay fun z => n1 (memL p z))
                · refine Stp.wr r1 s1 hpF (fun a ha => .inl (inF a (memR a ha))) (fun a ha => .inl (inF a (memL a ha))) m1 fun a ha z => ?_
                  rcases List.mem_cons.mp z with rfl | z
                  · exact n1 (memL _ ha)
                  · exact m3 a ha a z rfl
                · rw [List.mem_append, not_or, List.mem_singleton] at hj'
                  rw [get_put_ne hj'.2, q1 j' hj'.1]
              · exact h.elim
            · exact h.elim
          · exact h.elim
        | _ => exact h.elim
    | _ => rw [e0] at h; exact h.elim
/-! ### comprehensions -/
theorem wipe_ext {σ σ' : L2.St} {is : List Nat} (hl : σ'.length = σ.length) (h : ∀ i, i ∉ is → σ'[i]? = σ[i]?) : wipe σ' is = wipe σ is := by
  have key : ∀ (τ : L2.St) (js : List Nat) (j : Nat), j ∈ js → (wipe τ js)[j]? = if j < τ.length then some none else none := by
    intro τ js
    induction js with
    | nil => intro j hj; cases hj
    | cons a js ih =>
      intro j hj
      show ((wipe τ js).set a none)[j]? = _
      by_cases e : a = j
      · subst e
        by_cases hlt : a < τ.length
        · rw [if_pos hlt, List.getElem?_set_self (by rw [wipe_length]; exact hlt)]
        · rw [if_neg hlt, List.getElem?_eq_none (by rw [List.length_set, wipe_length]; omega)]
      · rw [List.getElem?_set_ne e]
        exact ih j ((List.mem_cons.mp hj).resolve_left fun z => e z.symm)
  refine List.ext_getElem? fun j => ?_
  by_cases hj : j ∈ is
  · rw [key _ _ _ hj, key _ _ _ hj, hl]
  · rw [wipe_out hj, wipe_out hj, h j hj]
theorem Rel.grow (r : Rel K G σ st R' H' F') (s1 : Sub R' R2) (s2 : ∀ a u, R2 a = some u → R' a = some u ∨ H' a = none) (s3 : Sub R2 H2) (s4 : Sub H' H2) : Rel K G σ st R2 H2 F' :=
  ⟨r.len, fun i d e => (by
    obtain ⟨v, h1, h2⟩ := r.sl i d e
    exact ⟨v, h1, RpO.stay s1 _ _ _ _ h2 fun a _ u eu => s4 a u eu⟩), r.em, r.nd, r.dj, s3, fun i a ha => (by
    cases e : R2 a with
    | none => rfl
    | some u =>
      rcases s2 a u e with z | z
      · rw [r.off i a ha] at z; cases z
      · obtain ⟨u', e'⟩ := r.dom ha
        rw [z] at e'; cases e')⟩
theorem Stp.grow (s : Stp M R F H R' F' H' f) (hk : ∀ a ∈ f, ∃ u, H' a = some u) (s1 : Sub R' R2) (s2 : ∀ a u, R2 a = some u → R' a = some u ∨ H' a = none) (s4 : Sub H' H2) : Stp M R F H R2 F' H2 f where
  un := s.un
  org := s.org
  fr := fun a u e k => s4 a u (s.fr a u e k)
  kp := fun a e => s.kp a (by
    cases e2 : H' a with
    | none => rfl
    | some u => rw [s4 a u e2] at e; cases e)
  ex := s.ex.trans s1
  ro := fun a u e => by
    rcases s2 a u e with z | z
    · exact s.ro a u z
    · exact .inr (.inr (s.kp a z))
  dj := s.dj
  nd := s.nd
  off := fun a ha => by
    cases e : R2 a with
    | none => rfl
    | some u =>
      rcases s2 a u e with z | z
      · rw [s.off a ha] at z; cases z
      · obtain ⟨u', e'⟩ := hk a ha
        rw [z] at e'; cases e'
/-- the new list is written -/
theorem Stp.updD (s : Stp M R F H R' F' H' f) {D : Addr} (hD : H D = none) (u : HO) : Stp M R F H R' F' (upd H' D u) f where
  un := s.un
  org := s.org
  fr := fun a w e k => by
    rw [upd_ne fun z => by rw [z, hD] at e; cases e]
    exact s.fr a w e k
  kp := fun a e => by
    by_cases z : a = D
    · rw [z]; exact hD
    · rw [upd_ne z] at e
      exact s.kp a e
  ex := s.ex
  ro := s.ro
  dj := s.dj
  nd := s.nd
  off := s.off
theorem Rel.updD (r : Rel K G σ st R' H' F') {D : Addr} (hD : ∀ i, D ∉ F' i) (hR : R' D = none) (u : HO) : Rel K G σ st R' (upd H' D u) F' :=
  ⟨r.len, fun i d e => (by
    obtain ⟨v, h1, h2⟩ := r.sl i d e
    exact ⟨v, h1, RpO.stay (Sub.refl _) _ _ _ _ h2 (upd_stay (hD i))⟩), r.em, r.nd, r.dj, fun a w e => (by
    rw [upd_ne fun z => by rw [z, hR] at e; cases e]
    exact r.sub a w e), r.off⟩
def tTs (K : PySem.W.Frag) (G : Nat → O) (W : WW) (cl : Nat → List D → CO) (t : Ty) : Option' → TT
  | .none => tYes
  | .some a => tTest (tE K G W t (mu a) (evE cl a))
theorem kept_ok (hk : kept k ty = true) (p : RpT K σ R H F ty d v f) : RpO K R H k d v f := by
  unfold kept at hk
  split at hk
  · exact RpO.scal p.2.1 p.1 |> fun z => by rw [p.2.2]; exact z
  · have := of_decide_eq_true hk
    subst this
    exact p
  · cases hk
theorem All3.dom {ds : List D} {vs : List V} {g : List Addr} (h : All3 (RpO K R H k) ds vs g) : ∀ a ∈ g, ∃ u, H a = some u := by
  induction h with
  | nil =>
    intro a ha
    cases ha
  | cons a1 a2 ih =>
    intro a ha
    rcases List.mem_append.mp ha with h' | h'
    · exact RpO.dom _ _ _ _ a1 a h'
    · exact ih a h'
theorem lim_le : lim ≤ sizeLine := by decide
def WF : WW := fun _ _ _ => False
theorem tTs_of {cc : Option'} {Q : Bool → Hp → Prop} (hc : sr t = true) (r : Rel K G σ st R H F) (h : match evC cl cc st with
    | .ok (.bl b) st' => ∀ R' F' H', Rel K G σ st' R' H' F' → Stp (muO cc) R F H R' F' H' [] → (∀ i, i ∉ muO cc → get st' i = get st i) → Q b H'
    | _ => False) : tTs K G WF cl t cc σ H Q := by
  cases cc with
  | none =>
    unfold evC at h
    exact h R F H r .refl fun _ _ => rfl
  | some a =>
    refine ⟨st, R, F, r, ?_⟩
    unfold evC at h
    cases e : evE cl a st with
    | bad => rw [e] at h; exact h
    | exc k st1 => rw [e] at h; exact h.elim
    | ok d st1 =>
      rw [e] at h
      intro v R1 F1 H1 f1 r1 p1 s1 q1
      cases d with
      | bl b => exact ⟨b, bl_of p1 hc, h R1 F1 H1 r1 s1.drop q1⟩
      | _ => exact h.elim
theorem comp_sem {tg : List Nat} {un : Bool} {s : Src} {cc : Option'} {e : E} {tc : Ty} (hk : kept k ty = true) (hP : ∀ i ∈ P, i ∉ muO cc ++ mu e) (hT : ∀ i ∈ tg, i ∉ muO cc ++ mu e) (hg : ∀ i ∈ tg, G i = .fz) (hc : sr tc = true)
    (h : tE K G W (.v (.lst k)) (muSrc s ++ (muO cc ++ mu e)) (evE cl (.comp k tg un s cc e)) σ H Q) :
    tLc (tI K G W P (muSrc s) (evSrc cl s)) (tgG K tg un) (tTs K G WF cl tc cc) (tE K G WF ty (mu e) (evE cl e)) tg σ H Q := by
  obtain ⟨st, R, F, r, h⟩ := h
  refine ⟨st, R, F, r, ?_⟩
  unfold evE at h
  cases e1 : evSrc cl s st with
  | bad => simp only [e1, Out.bind] at h; exact h
  | exc k st1 =>
    simp only [e1, Out.bind] at h
    exact fun R1 F1 H1 r1 s1 q1 => h R1 F1 H1 r1 (s1.weak fun i hi => List.mem_append_left _ hi) fun i hi => q1 i fun z => hi (List.mem_append_left _ z)
  | ok ds st1 =>
    simp only [e1, Out.bind] at h
    intro J R1 F1 H1 r1 wk s1 q1 Da hD
    split at h
    · rename_i res st2 e2
      split at h
      · rename_i hlim
        generalize hM : muO cc ++ mu e = Mb at *
        refine ⟨fun i m H' => m = ds.length - i ∧ i ≤ ds.length ∧ ∃ stt R' F' acc vacc facc rest, Rel K G (wipe σ tg) stt R' H' F' ∧ H' Da = some (.lst vacc) ∧ All3 (RpO K R' H' k) acc vacc facc ∧ Stp Mb R1 F1 H1 R' F' H' (Da :: facc) ∧
          compLoop (bindT tg un) (clear tg) (fun s => evC cl cc s) (fun s => evE cl e s) (ds.drop i) stt = .ok rest st2 ∧ acc ++ rest = res ∧ ∀ j, j ∉ tg → j ∉ Mb → get stt j = get st1 j, ?_, ?_⟩
        · refine ⟨_, rfl, Nat.zero_le _, clear tg st1, R1, F1, [], [], [], res, (r1.clear hg).updD (fun i z => by obtain ⟨u, eu⟩ := r1.dom z; rw [hD] at eu; cases eu) ?_ _, upd_same, .nil, ?_, by rw [List.drop_zero]; exact e2, rfl, fun j hj _ => clear_out hj⟩
          · cases e : R1 Da with
            | none => rfl
            | some u => rw [r1.sub _ _ e] at hD; cases hD
          · have base : Stp Mb R1 F1 H1 R1 F1 H1 [] := (Stp.refl (M := [])).weak fun i hi => by cases hi
            refine ⟨base.un, fun a ha => ?_, fun a w ew kk => ?_, fun a ea => ?_, base.ex, base.ro, fun a ha i z => ?_, List.nodup_cons.mpr ⟨by simp, List.nodup_nil⟩, fun a ha => ?_⟩
            · rcases ha with ha | ha
              · rw [List.mem_singleton.mp ha]
                exact .inr hD
              · exact base.org a (.inr ha)
            · rw [upd_ne fun z => by rw [z, hD] at ew; cases ew]
              exact ew
            · by_cases z : a = Da
              · rw [z]; exact hD
              · rw [upd_ne z] at ea
                exact ea
            · rw [List.mem_singleton.mp ha] at z
              obtain ⟨u, eu⟩ := r1.dom z
              rw [hD] at eu; cases eu
            · rw [List.mem_singleton.mp ha]
              cases e : R1 Da with
              | none => rfl
              | some u => rw [r1.sub _ _ e] at hD; cases hD
        · rintro i m H' ⟨rfl, hi, stt, R', F', acc, vacc, facc, rest, rr, hDa, ha, ss, el, er, eg⟩
          by_cases hlt : i < ds.length
          · have hd : ds[i]? = some ds[i] := List.getElem?_eq_getElem hlt
            have hdrop : ds.drop i = ds[i] :: ds.drop (i + 1) := List.drop_eq_getElem_cons hlt
            obtain ⟨go, yl⟩ := wk.go ss (fun i hi => hP i hi) rr.sub hd
            refine .inr ⟨go, fun H'' => (ds.length - (i + 1) = ds.length - (i + 1) ∧ i + 1 ≤ ds.length ∧ ∃ stt R' F' acc vacc facc rest, Rel K G (wipe σ tg) stt R' H'' F' ∧ H'' Da = some (.lst vacc) ∧ All3 (RpO K R' H'' k) acc vacc facc ∧ Stp Mb R1 F1 H1 R' F' H'' (Da :: facc) ∧
          compLoop (bindT tg un) (clear tg) (fun s => evC cl cc s) (fun s => evE cl e s) (ds.drop (i + 1)) stt = .ok rest st2 ∧ acc ++ rest = res ∧ ∀ j, j ∉ tg → j ∉ Mb → get stt j = get st1 j), fun H'' hh => ⟨_, by omega, hh⟩, fun x H2 yy => ?_⟩
            obtain ⟨R2, z1, z2, z3, z4, z5⟩ := yl x H2 yy
            have hfd : ∀ a ∈ Da :: facc, ∃ u, H' a = some u := fun a ha' => by
              rcases List.mem_cons.mp ha' with rfl | ha'
              · exact ⟨_, hDa⟩
              · exact ha.dom a ha'
            have rr2 := rr.grow z1 z2 z3 z4
            have ss2 := ss.grow hfd z1 z2 z4
            have hfd2 : ∀ a ∈ Da :: facc, ∃ u, H2 a = some u := fun a ha' => by
              obtain ⟨u, eu⟩ := hfd a ha'
              exact ⟨u, z4 a u eu⟩
            have hDa2 := z4 _ _ hDa
            have ha2 : All3 (RpO K R2 H2 k) acc vacc facc := ha.imp fun d v f _ q => RpO.stay z1 _ _ _ _ q fun a _ u eu => z4 a u eu
            rw [hdrop] at el
            unfold compLoop at el
            split at el
            · cases el
            · rename_i sta eb
              refine bindT_ok rr2 hg z5 eb fun σ2 rs ls es => ?_
              have hw : wipe σ2 tg = wipe σ tg := wipe_ext (by rw [ls, wipe_length]) fun j hj => by rw [(es j hj).1, wipe_out hj]
              refine ⟨hw, tTs_of hc rs ?_⟩
              split at el
              · rename_i stb ec
                rw [ec]
                intro R3 F3 H3 r3 s3 q3
                rw [if_pos rfl]
                refine ⟨stb, R3, F3, r3, ?_⟩
                split at el
                · rename_i y st3 ee
                  rw [ee]
                  intro v4 R4 F4 H4 f4 r4 p4 s4 q4
                  have s34 : Stp Mb R2 F' H2 R4 F4 H4 f4 := by rw [← hM]; exact s3.trans s4
                  obtain ⟨a1, a2, a3, a4⟩ := s34.aside ss2.dj ss2.off hfd2
                  have all := Stp.cat rr2 ss2 hfd2 s34
                  have hDa4 : H4 Da = some (.lst vacc) := a4 Da List.mem_cons_self _ hDa2
                  have key : ∃ rest', compLoop (bindT tg un) (Mini.clear tg) (fun s => evC cl cc s) (fun s => evE cl e s) (ds.drop (i + 1)) (Mini.clear tg st3) = .ok rest' st2 ∧ rest = y :: rest' := by
                    cases e9 : compLoop (bindT tg un) (Mini.clear tg) (fun s => evC cl cc s) (fun s => evE cl e s) (ds.drop (i + 1)) (Mini.clear tg st3) with
                    | ok r9 s9 =>
                      rw [e9] at el
                      cases el
                      exact ⟨r9, rfl, rfl⟩
                    | exc _ _ => rw [e9] at el; cases el
                    | bad => rw [e9] at el; cases el
                  obtain ⟨rest', er1, er2⟩ := key
                  subst er2
                  have nd := all.nd
                  have nDa : Da ∉ facc ++ f4 := (List.nodup_cons.mp nd).1
                  refine ⟨vacc, hDa4, ?_, rfl, hlt, Mini.clear tg st3, R4, F4, acc ++ [y], vacc ++ [v4], facc ++ f4, rest', ?_, upd_same, ?_, ?_, er1, ?_, fun j hj hm => ?_⟩
                  · rw [ha.length]
                    refine Nat.lt_of_lt_of_le (m := res.length) ?_ (Nat.le_trans hlim lim_le)
                    rw [← er, List.length_append, List.length_cons]
                    omega
                  · rw [← hw]
                    exact (r4.clear hg).updD (fun i => a1 Da List.mem_cons_self i) (a2 Da List.mem_cons_self) _
                  · have h4 : All3 (RpO K R4 H4 k) (acc ++ [y]) (vacc ++ [v4]) (facc ++ f4) :=
                      (ha2.imp fun d v f hf q => RpO.stay s34.ex _ _ _ _ q fun a ha' u eu => a4 a (List.mem_cons_of_mem _ (hf a ha')) u eu).append (All3.one (kept_ok hk p4))
                    exact h4.imp fun d v f hf q => RpO.stay (Sub.refl _) _ _ _ _ q (upd_stay fun z => nDa (hf _ z))
                  · exact (all.weak fun i hi => (List.mem_append.mp hi).elim id id).updD hD _
                  · rw [← er, List.append_assoc]
                    rfl
                  · have hm' : j ∉ muO cc ∧ j ∉ mu e := by
                      rw [← hM, List.mem_append, not_or] at hm
                      exact hm
                    rw [clear_out hj, q4 j hm'.2, q3 j hm'.1, (es j hj).2]
                    exact eg j hj hm
                · cases el
              · rename_i stb ec
                rw [ec]
                intro R3 F3 H3 r3 s3 q3
                rw [if_neg Bool.false_ne_true]
                have s3' : Stp Mb R2 F' H2 R3 F3 H3 [] := s3.weak fun i hi => by rw [← hM]; exact List.mem_append_left _ hi
                obtain ⟨a1, a2, a3, a4⟩ := s3'.aside ss2.dj ss2.off hfd2
                have all := Stp.cat rr2 ss2 hfd2 s3'
                rw [List.append_nil] at all
                refine ⟨rfl, hlt, Mini.clear tg stb, R3, F3, acc, vacc, facc, rest, ?_, a4 Da List.mem_cons_self _ hDa2, ?_, all.weak fun i hi => (List.mem_append.mp hi).elim id id, el, er, fun j hj hm => ?_⟩
                · rw [← hw]
                  exact r3.clear hg
                · exact ha2.imp fun d v f hf q => RpO.stay s3.ex _ _ _ _ q fun a ha' u eu => a4 a (List.mem_cons_of_mem _ (hf a ha')) u eu
                · have hm' : j ∉ muO cc := by
                    rw [← hM, List.mem_append, not_or] at hm
                    exact hm.1
                  rw [clear_out hj, q3 j hm', (es j hj).2]
                  exact eg j hj hm
              · cases el
          · have ei : i = ds.length := by omega
            subst ei
            rw [List.drop_length] at el
            cases el
            rw [List.append_nil] at er
            subst er
            refine .inl ⟨wk.stop ss (fun i hi => hP i hi) rr.sub, h (.ref Da) R' F' H' (Da :: facc) ?_ (.inr ⟨acc, Da, vacc, facc, rfl, rfl, hDa, ha, rfl⟩) (s1.trans ss) fun j hj => ?_⟩
            · have hlen : st1.length = st2.length := by rw [r1.len, rr.len, wipe_length]
              have FF : ∀ j ∈ tg, F' j = F1 j := fun j hj => ss.un j (hT j hj)
              refine ⟨by rw [back_len, rr.len, wipe_length], fun j d' ed => ?_, fun j ed => ?_, rr.nd, rr.dj, rr.sub, rr.off⟩
              · by_cases hj : j ∈ tg
                · rw [back_in hj hlen] at ed
                  obtain ⟨w, x1, x2⟩ := r1.sl j d' ed
                  refine ⟨w, x1, ?_⟩
                  rw [FF j hj]
                  rw [hg j hj] at x2 ⊢
                  exact ⟨Rep.mono ss.ex _ _ x2.1, x2.2⟩
                · rw [back_out hj] at ed
                  obtain ⟨w, x1, x2⟩ := rr.sl j d' ed
                  rw [wipe_out hj] at x1
                  exact ⟨w, x1, x2⟩
              · by_cases hj : j ∈ tg
                · rw [back_in hj hlen] at ed
                  rw [FF j hj]
                  exact r1.em j ed
                · rw [back_out hj] at ed
                  exact rr.em j ed
            · rw [List.mem_append, not_or] at hj
              have hlen : st1.length = st2.length := by rw [r1.len, rr.len, wipe_length]
              by_cases ht : j ∈ tg
              · rw [back_in ht hlen, q1 j hj.1]
              · rw [back_out ht, eg j ht hj.2, q1 j hj.1]
      · exact h.elim
    · exact h.elim
end
end Mini

/-! Mini: zip of three tuples. -/
namespace Mini
open PySem (Expr Stmt Operator CmpOp UnaryOp BoolOp Const Pos Scope NameKind Addr)
open PySem PyProof.Rows PySem.Spec
open L2
def ItzT3 (K : PySem.W.Frag) (a b c : Addr) : It :=
  ⟨fun i H => ∃ (xs ys zs : List V) (x y z : V), SqT K H a xs ∧ SqT K H b ys ∧ SqT K H c zs ∧ xs[i]? = some x ∧ ys[i]? = some y ∧ zs[i]? = some z,
    fun i H v H' => ∃ T x y z, v = .ref T ∧ H T = none ∧ H' = upd H T (.tup [x, y, z]) ∧ (∀ xs, SqT K H a xs → xs[i]? = some x) ∧ (∀ ys, SqT K H b ys → ys[i]? = some y) ∧ ∀ zs, SqT K H c zs → zs[i]? = some z,
    fun i H => ∃ xs ys zs : List V, SqT K H a xs ∧ SqT K H b ys ∧ SqT K H c zs ∧ i = min (min xs.length ys.length) zs.length⟩
theorem turn_zip3T {P : Program} {w : World} {K : PySem.W.Frag} {elts : List Expr} {kk : Nat} {tpos : Pos} {a b c z TI TO i1 i2 i3 : Addr} (S : ZipSep3 z TI TO i1 i2 i3 [i1, a] [i2, b] [i3, c]) (n1 : a ≠ i1) (n2 : b ≠ i2) (n3 : c ≠ i3) :
    Turn P w K (.Tuple elts kk tpos) (ItzT3 K a b c) [z, TI, TO, i1, i2, i3] z (fun i h => IsZip h z TI TO .none ∧ IsTupOf3 h TI (.ref i1) (.ref i2) (.ref i3) ∧ (∃ x y u, IsTupOf3 h TO x y u) ∧ h.IsTupleIter i1 a i ∧ h.IsTupleIter i2 b i ∧ h.IsTupleIter i3 c i) where
  mem := by simp
  obj := fun i h st e hc => by
    obtain ⟨hz, hTI, ⟨x, y, u, hTO⟩, ⟨o1, e1, _, d1⟩, ⟨o2, e2, _, d2⟩, ⟨o3, e3, _, d3⟩⟩ := st
    have e' : e = z ∨ e = TI ∨ e = TO ∨ e = i1 ∨ e = i2 ∨ e = i3 := by simpa using hc
    rcases e' with q | q | q | q | q | q
    · rw [q]; exact ⟨_, hz, fun v q => nomatch q⟩
    · rw [q]; exact ⟨_, hTI, fun v q => nomatch q⟩
    · rw [q]; exact ⟨_, hTO, fun v q => nomatch q⟩
    · rw [q]; exact ⟨o1, e1, fun v q => by rw [d1] at q; cases q⟩
    · rw [q]; exact ⟨o2, e2, fun v q => by rw [d2] at q; cases q⟩
    · rw [q]; exact ⟨o3, e3, fun v q => by rw [d3] at q; cases q⟩
  keep := fun i h h' st k => by
    obtain ⟨hz, hTI, ⟨x, y, u, hTO⟩, h1, h2, h3⟩ := st
    exact ⟨k z (by simp) _ hz, k TI (by simp) _ hTI, ⟨x, y, u, k TO (by simp) _ hTO⟩, h1.at fun o q => k i1 (by simp) o q, h2.at fun o q => k i2 (by simp) o q, h3.at fun o q => k i3 (by simp) o q⟩
  item := by
    intro X hP hw hK hc i pins s σ H E I hf st hg
    subst hP hw hK
    obtain ⟨hz, hTI, ⟨x0, y0, u0, hTO⟩, h1, h2, h3⟩ := st
    obtain ⟨xs, ys, zs, x, y, q, hqx, hqy, hqz, hx, hy, hq⟩ := hg
    obtain ⟨its, rv, p, _⟩ := I.tuple hqx
    obtain ⟨its2, rv2, p2, _⟩ := I.tuple hqy
    obtain ⟨its3, rv3, p3, _⟩ := I.tuple hqz
    obtain ⟨u, hu, ru⟩ := rv.get hx
    obtain ⟨u2, hu2, ru2⟩ := rv2.get hy
    obtain ⟨u3, hu3, ru3⟩ := rv3.get hq
    have hzl : z < s.heap.objs.size := Heap.lt_size hz
    have hh : X.A.in1.handled = none := I.ok.hd hc
    have q1 : its.toArray[i]? = some u := by simpa using hu
    have q2 : its2.toArray[i]? = some u2 := by simpa using hu2
    have q3 : its3.toArray[i]? = some u3 := by simpa using hu3
    refine wpAny_pyNext_zipD3_item S (Draws.tuple hh i1 a n1 its.toArray) (Draws.tuple hh i2 b n2 its2.toArray) (Draws.tuple hh i3 c n3 its3.toArray) hz hTI hTO ⟨h1, p⟩ ⟨h2, p2⟩ ⟨h3, p3⟩ (Array.getElem?_eq_some_iff.mp q1).1 (Array.getElem?_eq_some_iff.mp q2).1 (Array.getElem?_eq_some_iff.mp q3).1 fun w1 w2 w3 h' tk e1 e2 e3 z' TO' st1 st2 st3 hT hsz hk => ?_
    rw [q1] at e1
    rw [q2] at e2
    rw [q3] at e3
    cases e1
    cases e2
    cases e3
    refine ⟨_, rfl, wpAny_letOwnedTupleGo_zip (s := { s with heap := h', toks := tk }) z' fun h'' z'' sb => ?_⟩
    have hT2 : h''.get? s.heap.objs.size = some { cls := .type "tuple", data := .seq #[u, u2, u3] } := (sb.2 _ (Nat.ne_of_gt hzl)).trans hT
    have new : ObjOk X.prog X.w (upd H s.heap.objs.size (.tup [x, y, q])) h'' s.heap.objs.size (.tup [x, y, q]) :=
      ⟨by show 3 ≤ sizeLine; decide, [u, u2, u3], .cons ru (.cons ru2 (.cons ru3 .nil)), ⟨_, hT2, rfl, _, rfl⟩⟩
    have I1 : Inv X pins σ (upd H s.heap.objs.size (.tup [x, y, q])) { s with heap := h'', toks := tk } :=
      I.turnedNew (t' := tk) (ch := [z, TI, TO, i1, i2, i3]) (fun e o hb q => (sb.2 e (fun q' => hb (by simp [q']))).trans (hk e o (fun q' => hb (by simp [q'])) (fun q' => hb (by simp [q'])) (fun q' => hb (by simp [q'])) (fun q' => hb (by simp [q'])) (fun q' => hb (by simp [q'])) q)) hf (Nat.le_refl _) new
    have i1z : i1 ≠ z := fun e => S.zf1 (by rw [e]; exact List.mem_cons_self)
    have i2z : i2 ≠ z := fun e => S.zf2 (by rw [e]; exact List.mem_cons_self)
    have i3z : i3 ≠ z := fun e => S.zf3 (by rw [e]; exact List.mem_cons_self)
    refine ⟨.ref s.heap.objs.size, _, I1, rfl, ⟨_, x, y, q, rfl, I.hok.fresh (Nat.le_refl _), rfl, fun l hl => by rw [I.tuple_inj hl hqx]; exact hx, fun l hl => by rw [I.tuple_inj hl hqy]; exact hy, fun l hl => by rw [I.tuple_inj hl hqz]; exact hq⟩, ⟨z'', ?_, ⟨u, u2, u3, ?_⟩, ?_, ?_, ?_⟩, fun e hcm => ?_⟩
    · exact (sb.2 _ S.TIz).trans (hk _ _ S.TIz S.TITO S.TIi1 S.TIi2 S.TIi3 hTI)
    · exact (sb.2 _ S.TOz).trans TO'
    · exact st1.1.at fun o q => (sb.2 _ i1z).trans q
    · exact st2.1.at fun o q => (sb.2 _ i2z).trans q
    · exact st3.1.at fun o q => (sb.2 _ i3z).trans q
    · have hlt : e < s.heap.objs.size := by
        have e' : e = z ∨ e = TI ∨ e = TO ∨ e = i1 ∨ e = i2 ∨ e = i3 := by simpa using hcm
        rcases e' with q | q | q | q | q | q
        · rw [q]; exact hzl
        · rw [q]; exact Heap.lt_size hTI
        · rw [q]; exact Heap.lt_size hTO
        · rw [q]; obtain ⟨_, e1, _⟩ := h1; exact Heap.lt_size e1
        · rw [q]; obtain ⟨_, e2, _⟩ := h2; exact Heap.lt_size e2
        · rw [q]; obtain ⟨_, e3, _⟩ := h3; exact Heap.lt_size e3
      rw [upd_ne (Nat.ne_of_lt hlt)]
      exact (hf e hcm).1
  done := by
    intro X hP hw hK hc i pins s σ H E I hf st hg
    subst hP hw hK
    obtain ⟨hz, hTI, ⟨x0, y0, u0, hTO⟩, h1, h2, h3⟩ := st
    obtain ⟨xs, ys, zs, hqx, hqy, hqz, hend⟩ := hg
    obtain ⟨its, rv, p, _⟩ := I.tuple hqx
    obtain ⟨its2, rv2, p2, _⟩ := I.tuple hqy
    obtain ⟨its3, rv3, p3, _⟩ := I.tuple hqz
    have l1 := rv.length
    have l2 := rv2.length
    have l3 := rv3.length
    have hh : X.A.in1.handled = none := I.ok.hd hc
    have s1 : its.toArray.size = xs.length := by simp [l1]
    have s2 : its2.toArray.size = ys.length := by simp [l2]
    have s3 : its3.toArray.size = zs.length := by simp [l3]
    exact wpAny_pyNext_zipD3_end S (Draws.tuple hh i1 a n1 its.toArray) (Draws.tuple hh i2 b n2 its2.toArray) (Draws.tuple hh i3 c n3 its3.toArray) hz hTI hTO ⟨h1, p⟩ ⟨h2, p2⟩ ⟨h3, p3⟩ (by omega) (by omega) (by omega) (by omega) fun h' tk hk => ⟨rfl, I.turnedL (t' := tk) (ch := [z, TI, TO, i1, i2, i3]) (fun e o hb q =>
      hk e o (fun q' => hb (by simp [q'])) (fun q' => hb (by simp [q'])) (fun q' => hb (by simp [q'])) (fun q' => hb (by simp [q'])) (fun q' => hb (by simp [q'])) q) hf⟩
  self := fun A i s Q E st h => wpAny_pyIter_zip st.1 h
def iZip3T (K : PySem.W.Frag) (ta : TA) : TI := fun σ H R => ta σ H fun vs H1 => ∃ a b c xs ys zs, vs = [.ref a, .ref b, .ref c] ∧ SqT K H1 a xs ∧ SqT K H1 b ys ∧ SqT K H1 c zs ∧ R (ItzT3 K a b c) H1
theorem sep3 (n a b c : Nat) (la : a < n) (lb : b < n) (lc : c < n) : ZipSep3 (n + 5) (n + 3) (n + 4) n (n + 1) (n + 2) [n, a] [n + 1, b] [n + 2, c] := by
  have ni : ∀ {x y u : Nat}, x ≠ y → x ≠ u → x ∉ [y, u] := fun h1 h2 z => by
    rcases List.mem_cons.mp z with z | z
    · exact h1 z
    · exact h2 (List.mem_singleton.mp z)
  have ne : ∀ {x y : Nat}, x < y ∨ y < x → x ≠ y := fun h e => by omega
  exact ⟨ne (by omega), ne (by omega), ne (by omega), ne (by omega), List.mem_cons_self, ni (by omega) (by omega), ni (by omega) (by omega), ne (by omega), List.mem_cons_self, ni (by omega) (by omega), ni (by omega) (by omega), ne (by omega), List.mem_cons_self, ni (by omega) (by omega), ni (by omega) (by omega),
    ni (by omega) (by omega), ni (by omega) (by omega), ni (by omega) (by omega), ni (by omega) (by omega), ni (by omega) (by omega), ni (by omega) (by omega)⟩
theorem pi_zip3T {X : Cx} {e e2 e3 : Expr} {ta : TA} {p pos tpos : Pos} {elts : List Expr} {kk : Nat} (hg : Gl X "zip") (hm : X.mg "zip" = none) (ha : PA X [e, e2, e3] ta)
    (hs : starEach [e, e2, e3] X.env = (false, eval e X.env) :: starEach [e2, e3] X.env) (hpl : (backTo pos (starEach [e2, e3] X.env)).any (·.1) = false) :
    PI X (.Tuple elts kk tpos) (.Call (.Name "zip" p) [e, e2, e3] [] pos) (iZip3T X.K ta) := by
  refine ⟨fun pins s σ H R I h => ?_⟩
  refine Call_ (ld_blt I hg hm PyProof.Rows.boot_zip (PyProof.Rows.callWith_type1 (thn (ha.run pos pins s σ H _ I h) fun us s1 ⟨vs, H1, I1, r1, q1⟩ => ?_) hs hpl))
  obtain ⟨a, b, c, xs, ys, zs, ex, hqx, hqy, hqz, q⟩ := q1
  subst ex
  cases r1 with
  | cons r rr =>
    cases rr with
    | cons r' rr =>
      cases rr with
      | cons r'' rr =>
        cases rr
        cases r
        cases r'
        cases r''
        obtain ⟨its, rv, p1, _⟩ := I1.tuple hqx
        obtain ⟨its2, rv2, p2, _⟩ := I1.tuple hqy
        obtain ⟨its3, rv3, p3, _⟩ := I1.tuple hqz
        obtain ⟨o1, ho1, _⟩ := id p1
        obtain ⟨o2, ho2, _⟩ := id p2
        obtain ⟨o3, ho3, _⟩ := id p3
        have la : a < s1.heap.objs.size := Heap.lt_size ho1
        have lb : b < s1.heap.objs.size := Heap.lt_size ho2
        have lc : c < s1.heap.objs.size := Heap.lt_size ho3
        have fresh6 : ∀ d, d ∈ [s1.heap.objs.size + 5, s1.heap.objs.size + 3, s1.heap.objs.size + 4, s1.heap.objs.size, s1.heap.objs.size + 1, s1.heap.objs.size + 2] → FpOk X pins H1 d := fun d hcm => by
          have hle : s1.heap.objs.size ≤ d := by
            simp at hcm
            omega
          exact I1.fpOk hle (I1.hok.fresh hle)
        refine zip_begins3 (begins_tuple a its.toArray) (begins_tuple b its2.toArray) (begins_tuple c its3.toArray) p1 p2 p3 fun h' hz hTI hTO h1 h2 h3 hsz hk => wpAny_pyIter_zip hz ?_
        have I2 : Inv X pins σ H1 { s1 with heap := h' } := I1.kept (t' := s1.toks) hk
        refine ⟨s1.heap.objs.size + 5, [s1.heap.objs.size + 5, s1.heap.objs.size + 3, s1.heap.objs.size + 4, s1.heap.objs.size, s1.heap.objs.size + 1, s1.heap.objs.size + 2], _, _, H1, rfl, I2, turn_zip3T ?_ ?_ ?_ ?_, ⟨hz, hTI, ⟨_, _, _, hTO⟩, ⟨_, h1, rfl, rfl⟩, ⟨_, h2, rfl, rfl⟩, ⟨_, h3, rfl, rfl⟩⟩, fresh6, q⟩
        · exact sep3 _ _ _ _ la lb lc
        · exact Nat.ne_of_lt la
        · exact Nat.ne_of_lt (Nat.lt_succ_of_lt lb)
        · exact Nat.ne_of_lt (Nat.lt_succ_of_lt (Nat.lt_succ_of_lt lc))
section
variable {K : PySem.W.Frag} {G : Nat → O} {W : WW} {σ σ' : L2.St} {st st' st1 : Sl} {R H R' H' R1 H1 R2 H2 : Hp} {F F' F1 F2 : Nat → List Addr} {M M1 M2 P : List Nat} {f f1 f2 : List Addr} {ty t : Ty} {d : D} {v : V} {ds : List D} {vs : List V} {cl : Nat → List D → CO}
/-- a tuple that is walked stands through what leaves the slots P -/
theorem tup_keep (r : Rel K G σ st R H F) (p : RpT K σ R H F t (.tup ds) v f) (hd : ∀ a ∈ f, ∀ i, a ∉ F i) (ht : (itTy t).isSome = true) :
    ∃ a vs, v = .ref a ∧ RepL K R ds vs ∧ H a = some (.tup vs) ∧ ∀ {M : List Nat} {R' : Hp} {F' : Nat → List Addr} {H' : Hp} {f : List Addr}, Stp M R F H R' F' H' f → Sub R' H' → H' a = some (.tup vs) := by
  unfold itTy at ht
  split at ht
  · obtain ⟨⟨a, vs, rfl, ha, hl⟩, _⟩ := p
    exact ⟨a, vs, rfl, hl, r.sub _ _ ha, fun s sb => sb _ _ (s.ex _ _ ha)⟩
  · rcases p with ⟨e, _⟩ | ⟨_, _, _, _, e, _⟩ <;> cases e
  · obtain ⟨_, g, p, _⟩ := p
    rcases p with ⟨e, _⟩ | ⟨_, _, _, _, e, _⟩ <;> cases e
  · rcases p with ⟨e, _⟩ | ⟨ds', a, vs, g, e, rfl, ha, hl, rfl⟩
    · cases e
    · cases e
      exact ⟨a, vs, rfl, hl.fz.1, ha, fun s _ => s.fr _ _ ha fun i _ => hd a List.mem_cons_self i⟩
  · cases ht
theorem zip3_len : ∀ {xs ys zs : List D}, (zip3D xs ys zs).length = min (min xs.length ys.length) zs.length
  | [], _, _ => by simp [zip3D]
  | _ :: _, [], _ => by simp [zip3D]
  | _ :: _, _ :: _, [] => by simp [zip3D]
  | x :: xs, y :: ys, z :: zs => by
    show (zip3D xs ys zs).length + 1 = _
    rw [zip3_len]
    simp only [List.length_cons]
    omega
theorem zip3_get : ∀ {xs ys zs : List D} {i : Nat} {d : D}, (zip3D xs ys zs)[i]? = some d → ∃ x y z, xs[i]? = some x ∧ ys[i]? = some y ∧ zs[i]? = some z ∧ d = .tup [x, y, z]
  | [], _, _, _, _, h => by simp [zip3D] at h
  | _ :: _, [], _, _, _, h => by simp [zip3D] at h
  | _ :: _, _ :: _, [], _, _, h => by simp [zip3D] at h
  | x :: xs, y :: ys, z :: zs, 0, d, h => by
    have : D.tup [x, y, z] = d := by simpa [zip3D] using h
    exact ⟨x, y, z, rfl, rfl, rfl, this.symm⟩
  | x :: xs, y :: ys, z :: zs, i + 1, d, h => by
    have : (zip3D xs ys zs)[i]? = some d := by simpa [zip3D] using h
    obtain ⟨a, b, c, h1, h2, h3, h4⟩ := zip3_get this
    exact ⟨a, b, c, by simpa using h1, by simpa using h2, by simpa using h3, h4⟩
theorem tS_zip3 {as : Es} {tys : List Ty} {Rr : It → Hp → Prop} (hs : tys.all (fun t => (itTy t).isSome) = true) (h : tI K G W (pkSl tys) (muSrc (.zip as)) (evSrc cl (.zip as)) σ H Rr) :
    tA K G W tys (muEs as) (evEs cl as) σ H fun vs H1 => ∃ a b c xs ys zs, vs = [.ref a, .ref b, .ref c] ∧ SqT K H1 a xs ∧ SqT K H1 b ys ∧ SqT K H1 c zs ∧ Rr (ItzT3 K a b c) H1 := by
  obtain ⟨st, R0, F, r, h⟩ := h
  refine ⟨st, R0, F, r, ?_⟩
  unfold evSrc at h
  simp only [muSrc] at h
  cases e1 : evEs cl as st with
  | bad => simp only [e1, Out.bind] at h; exact h
  | exc k st1 => simp only [e1, Out.bind] at h; exact h
  | ok ds st1 =>
    simp only [e1, Out.bind] at h
    intro vs R1 F1 H1 f1 r1 p1 s1 q1
    cases e2 : zipsD ds with
    | none => simp only [e2] at h; exact h.elim
    | some l =>
      simp only [e2] at h
      unfold zipsD at e2
      split at e2
      · rename_i xs ys zs
        cases e2
        cases p1 with
        | @cons ta tsa _ _ va vsa fa ga a1 b1 =>
          cases b1 with
          | @cons tb tsb _ _ vb vsb fb gb a2 b2 =>
            cases b2 with
            | @cons tc tsc _ _ vc vsc fc gc a3 b3 =>
              cases b3
              simp only [List.all_cons, Bool.and_eq_true] at hs
              obtain ⟨g1, g2, g3, _⟩ := hs
              obtain ⟨a, us, rfl, l1, m1, k1⟩ := tup_keep r1 a1 (fun x hx i => s1.dj x (List.mem_append_left _ hx) i) g1
              obtain ⟨b, ws, rfl, l2, m2, k2⟩ := tup_keep r1 a2 (fun x hx i => s1.dj x (List.mem_append_right _ (List.mem_append_left _ hx)) i) g2
              obtain ⟨c, xs', rfl, l3, m3, k3⟩ := tup_keep r1 a3 (fun x hx i => s1.dj x (List.mem_append_right _ (List.mem_append_right _ (List.mem_append_left _ hx))) i) g3
              refine ⟨a, b, c, us, ws, xs', rfl, .inl (.inl m1), .inl (.inl m2), .inl (.inl m3), h _ R1 F1 H1 r1 ⟨fun {M R' F' H' f} s hp sb {i d} e => ?_, fun {M R' F' H' f} s hp sb => ?_⟩ s1.drop q1⟩
              · obtain ⟨x, y, z, e1, e2, e3, rfl⟩ := zip3_get e
                obtain ⟨w1, hw1, rw1⟩ := RepL.get (RepL.mono s.ex _ _ l1) e1
                obtain ⟨w2, hw2, rw2⟩ := RepL.get (RepL.mono s.ex _ _ l2) e2
                obtain ⟨w3, hw3, rw3⟩ := RepL.get (RepL.mono s.ex _ _ l3) e3
                refine ⟨⟨us, ws, xs', w1, w2, w3, .inl (.inl (k1 s sb)), .inl (.inl (k2 s sb)), .inl (.inl (k3 s sb)), hw1, hw2, hw3⟩, fun x' H2 yy => ?_⟩
                obtain ⟨T, y1, y2, y3, rfl, hT, rfl, z1, z2, z3⟩ := yy
                have z1 := z1 us (.inl (.inl (k1 s sb)))
                have z2 := z2 ws (.inl (.inl (k2 s sb)))
                have z3 := z3 xs' (.inl (.inl (k3 s sb)))
                rw [hw1] at z1
                rw [hw2] at z2
                rw [hw3] at z3
                cases z1
                cases z2
                cases z3
                have ne : ∀ {a u}, R' a = some u → a ≠ T := fun {a u} e z => by
                  rw [z] at e
                  rw [sb _ _ e] at hT
                  cases hT
                have sub2 : Sub R' (upd R' T (.tup [w1, w2, w3])) := fun a u e => by
                  rw [upd_ne (ne e)]
                  exact e
                refine ⟨upd R' T (.tup [w1, w2, w3]), sub2, fun a u e => ?_, fun a u e => ?_, fun a u e => ?_, T, _, rfl, upd_same, ?_⟩
                · by_cases z : a = T
                  · exact .inr (by rw [z]; exact hT)
                  · rw [upd_ne z] at e
                    exact .inl e
                · by_cases z : a = T
                  · subst z
                    rw [upd_same] at e ⊢
                    exact e
                  · rw [upd_ne z] at e ⊢
                    exact sb _ _ e
                · rw [upd_ne fun z => by rw [z, hT] at e; cases e]
                  exact e
                · exact ⟨w1, _, rfl, Rep.mono sub2 _ _ rw1, w2, _, rfl, Rep.mono sub2 _ _ rw2, w3, _, rfl, Rep.mono sub2 _ _ rw3, rfl⟩
              · refine ⟨us, ws, xs', .inl (.inl (k1 s sb)), .inl (.inl (k2 s sb)), .inl (.inl (k3 s sb)), ?_⟩
                rw [zip3_len, l1.length, l2.length, l3.length]
      · cases e2
end
end Mini

/-! Mini, part 17: what the look says holds: expressions. -/
namespace Mini
open PySem (Expr Stmt Operator CmpOp UnaryOp BoolOp Const Pos Scope NameKind Addr)
open PySem PyProof.Rows
open L2
structure FnsOk (k : Nat) (C : SC) (cl : Nat → List D → CO) (cls : Nat → Value) (X : Cx) : Prop where
  fn : ∀ (f : Nat) (fd : FD), C.fds[f]? = some fd → ∃ (fa : Addr) (FD : PySem.FuncData), X.mg fd.name = some (.ref fa) ∧ PySem.W.keepIn X.K (.ref fa) = true ∧ Binds X.K FD (fd.N.take fd.np) [] ∧ FnOk X.prog X.w X.K X.mg X.base (L2.CX X.prog X.w) k fa FD (fd.N.take fd.np) (spF X.K cl cls fd f)
  wf : ∀ (f : Nat) (fd : FD), C.fds[f]? = some fd → fd.np ≤ fd.G.length
def PasX (cls : Nat → Value) (W : WW) (X : Cx) : Prop := ∀ σ, PassesAt (L2.CX X.prog X.w) X σ (WEx cls W σ)
def PTl (X : Cx) : Es → List Expr → List TE → Prop
  | .cons a as, e :: es, t :: ts => (tstE a = true → PT X e (tTest t)) ∧ PTl X as es ts
  | _, _, _ => True
section
variable {X : Cx} {k : Nat} {C : SC} {sc : Scope} {cl : Nat → List D → CO} {cls : Nat → Value} {W : WW}
theorem sees_ok (o : XOk k C sc X) {i : Nat} {y : PySem.Str} {p : Pos} (h : sees C sc i y = true) : PE X (.Name y p) (tVar i) := by
  unfold sees at h
  simp only [Bool.and_eq_true] at h
  obtain ⟨h1, h2, h3⟩ := h
  have h1 := of_decide_eq_true h1
  obtain ⟨d1, d2, _⟩ := okN_ok h3
  refine pe_var (by rw [o.N]; exact h1) ?_ d1 d2
  rw [o.scope]
  unfold vis at h2
  split at h2
  · rename_i e; exact .inl e
  · rename_i e; exact .inr (.inl e)
  · rename_i e; exact .inr (.inr e)
  · cases h2
theorem op_pt {es : List Expr} {ts : List TE} {o : Op} {e : Expr} (O : XOk k C sc X) (h : shp C sc o e = some es) (L : PEl X es ts) (hn : o ≠ .not_) : PT X e (tTest (tOpN X.K o ts)) := by
  have hu := O.hu
  have P := op_syn O h L
  unfold shp at h
  split at h
  all_goals first
    | exact absurd rfl hn
    | (cases h; done)
    | exact pt_val P (fun _ => rfl)
    | skip
  all_goals try (cases h)
  · obtain ⟨t, rfl, p, _⟩ := L.one; exact pt_cmp (pc_isN p) rfl
  · obtain ⟨t, rfl, p, _⟩ := L.one; exact pt_cmp (pc_notN p) rfl
  · obtain ⟨t, u, rfl, p, q, _, _⟩ := L.two; exact pt_cmpR (op_eqD (by omega)) p q (nomark _)
  · obtain ⟨t, u, rfl, p, q, _, _⟩ := L.two; exact pt_cmpR (op_neD (by omega)) p q (nomark _)
  · obtain ⟨t, u, rfl, p, q, _, _⟩ := L.two; exact pt_cmpR op_lt p q (nomark _)
  · obtain ⟨t, u, rfl, p, q, _, _⟩ := L.two; exact pt_cmpR op_le p q (nomark _)
  · obtain ⟨t, u, rfl, p, q, _, _⟩ := L.two; exact pt_cmpR op_gt p q (nomark _)
  · obtain ⟨t, u, rfl, p, q, _, _⟩ := L.two; exact pt_cmpR op_ge p q (nomark _)
  · obtain ⟨t, u, rfl, p, q, _, n⟩ := L.two; exact pt_cmpR ((op_inD hu).or op_in_seq) p q (mark_of n)
  · obtain ⟨t, u, rfl, p, q, _, n⟩ := L.two; exact pt_cmpR ((op_notInD hu).or op_notIn_seq) p q (mark_of n)
theorem chn_of {K : PySem.W.Frag} {G : Nat → O} {σ : L2.St} {H : Hp} {ty : Ty} {tys : List Ty} {M1 M2 : List Nat} {run : Sl → Out D} {runs : Sl → Out (List D)} {ts : List TE} {Q : List V → Hp → Prop} (h : tCons (tE K G W ty M1 run) (tA K G W tys M2 runs) σ H Q)
    (k : ∀ σ H Q, tA K G W tys M2 runs σ H Q → chn ts σ H Q) : tCons (tE K G W ty M1 run) (chn ts) σ H Q := by
  obtain ⟨st, R, F, r, h⟩ := h
  exact ⟨st, R, F, r, h.mono fun v H q => k _ _ _ q⟩
theorem own_eq {N : List PySem.Str} : ∀ {tg : List Nat}, (tg.filterMap fun i => (N[i]?).map fun x => (x, i)).length = tg.length → (tg.filterMap fun i => (N[i]?).map fun x => (x, i)).map (·.2) = tg
  | [], _ => rfl
  | i :: tg, h => by
    cases e : N[i]? with
    | none =>
      rw [List.filterMap_cons_none (by simp [e])] at h
      have := List.length_filterMap_le (fun i => (N[i]?).map fun x => (x, i)) tg
      rw [List.length_cons] at h
      omega
    | some x =>
      rw [List.filterMap_cons_some (b := (x, i)) (by simp [e])] at h ⊢
      rw [List.map_cons, own_eq (Nat.succ.inj h)]
theorem fold_pln {e : Expr} (h : pln e = true) (env : Env) (x : Value) : foldedSetIterable e env x = pure x := by
  cases e <;> first | rfl | exact absurd h Bool.false_ne_true
theorem cmpIs_ok {X : Cx} {o : Op} {c : CmpOp} (h : cmpIs o c = true) : OpR X (compareOp c) (rcm o) ∧ c ≠ .In ∧ c ≠ .NotIn := by
  unfold cmpIs at h
  split at h
  · exact ⟨op_lt, by decide, by decide⟩
  · exact ⟨op_le, by decide, by decide⟩
  · exact ⟨op_gt, by decide, by decide⟩
  · exact ⟨op_ge, by decide, by decide⟩
  · cases h
theorem tS_rng1 {K : PySem.W.Frag} {G : Nat → O} {σ : L2.St} {H : Hp} {R : It → Hp → Prop} {a : E} {t : Ty} (hs : sr t = true) (h : tI K G W [] (muSrc (.rng1 a)) (evSrc cl (.rng1 a)) σ H R) : iRng1 (chn [tE K G W t (mu a) (evE cl a)]) σ H R := by
  obtain ⟨st, R0, F, r, h⟩ := h
  refine ⟨st, R0, F, r, ?_⟩
  unfold evSrc at h
  simp only [muSrc] at h
  cases e1 : evE cl a st with
  | bad => simp only [e1, Out.bind] at h; exact h
  | exc k st1 => simp only [e1, Out.bind] at h; exact h
  | ok d st1 =>
    simp only [e1, Out.bind] at h
    intro v R1 F1 H1 f1 r1 p1 s1 q1
    cases d with
    | int n =>
      simp only at h
      split at h
      · rename_i hn
        have := int_of p1 hs
        subst this
        exact ⟨n, rfl, hn.1, hn.2, h _ R1 F1 H1 r1 wk_rng s1.drop q1⟩
      · exact h.elim
    | _ => exact h.elim
theorem tS_rng2 {K : PySem.W.Frag} {G : Nat → O} {σ : L2.St} {H : Hp} {R : It → Hp → Prop} {a b : E} {t u : Ty} (hs : sr t = true) (hu : sr u = true) (hp : pkOut t (mu b) = true) (h : tI K G W [] (muSrc (.rng2 a b)) (evSrc cl (.rng2 a b)) σ H R) :
    iRng2 (chn [tE K G W t (mu a) (evE cl a), tE K G W u (mu b) (evE cl b)]) σ H R := by
  obtain ⟨st, R0, F, r, h⟩ := h
  refine ⟨st, R0, F, r, ?_⟩
  unfold evSrc at h
  simp only [muSrc] at h
  cases e1 : evE cl a st with
  | bad => simp only [e1, Out.bind] at h; exact h
  | exc k st1 =>
    simp only [e1, Out.bind] at h
    exact fun R1 F1 H1 r1 s1 q1 => h R1 F1 H1 r1 (s1.weak fun i hi => List.mem_append_left _ hi) fun i hi => q1 i fun z => hi (List.mem_append_left _ z)
  | ok d st1 =>
    simp only [e1, Out.bind] at h
    intro v R1 F1 H1 f1 r1 p1 s1 q1
    refine ⟨st1, R1, F1, r1, ?_⟩
    cases e2 : evE cl b st1 with
    | bad => simp only [e2] at h; exact h
    | exc k st2 =>
      simp only [e2] at h
      intro R2 F2 H2 r2 s2 q2
      refine h R2 F2 H2 r2 (s1.trans s2) fun i hi => ?_
      rw [List.mem_append, not_or] at hi
      rw [q2 i hi.2, q1 i hi.1]
    | ok e st2 =>
      simp only [e2] at h
      intro w R2 F2 H2 f2 r2 p2 s2 q2
      cases d with
      | int i =>
        cases e with
        | int j =>
          simp only at h
          split at h
          · rename_i hn
            have e1 := int_of p1 hs
            have e2 := int_of p2 hu
            subst e1 e2
            refine ⟨i, j, rfl, hn, h _ R2 F2 H2 r2 wk_rng (s1.trans s2.drop) fun i hi => ?_⟩
            rw [List.mem_append, not_or] at hi
            rw [q2 i hi.2, q1 i hi.1]
          · exact h.elim
        | _ => exact h.elim
      | _ => exact h.elim
theorem tS_seq {K : PySem.W.Frag} {G : Nat → O} {σ : L2.St} {H : Hp} {R : It → Hp → Prop} {a : E} {t : Ty} (hs : (itTy t).isSome = true) (h : tI K G W (srcP t) (muSrc (.seq a)) (evSrc cl (.seq a)) σ H R) :
    tE K G W t (mu a) (evE cl a) σ H fun x H1 => ∃ a, x = .ref a ∧ (((∃ xs, SqL K H1 a xs) ∧ R (Itl K a) H1) ∨ ((∃ xs, SqT K H1 a xs) ∧ R (Itt K a) H1)) := by
  obtain ⟨st, R0, F, r, h⟩ := h
  refine ⟨st, R0, F, r, ?_⟩
  unfold evSrc at h
  simp only [muSrc] at h
  cases e1 : evE cl a st with
  | bad => simp only [e1, Out.bind] at h; exact h
  | exc k st1 => simp only [e1, Out.bind] at h; exact h
  | ok d st1 =>
    simp only [e1, Out.bind] at h
    intro v R1 F1 H1 f1 r1 p1 s1 q1
    cases e2 : itemsD d with
    | none => simp only [e2] at h; exact h.elim
    | some ds =>
      simp only [e2] at h
      obtain ⟨p, rfl, z⟩ := wk_seq r1 p1 s1.dj hs e2
      refine ⟨p, rfl, ?_⟩
      rcases z with ⟨z1, z2⟩ | ⟨z1, z2⟩
      · exact .inl ⟨z1, h _ R1 F1 H1 r1 z2 s1.drop q1⟩
      · exact .inr ⟨z1, h _ R1 F1 H1 r1 z2 s1.drop q1⟩
end
/-- what an expression's look gives -/
structure Ex (X : Cx) (e : E) (x : Expr) (t : TE) : Prop where
  pl : pln x = true
  pe : PE X x t
  pt : tstE e = true → PT X x (tTest t)
  pw : ∀ op l p, x = .BoolOp op l p → tstE e = true → PW X x (tTest t)
def bOp : Expr → Bool
  | .BoolOp _ _ _ => true
  | _ => false
theorem Ex.of {X : Cx} {e : E} {x : Expr} {t : TE} (pl : pln x = true) (pe : PE X x t) (pt : tstE e = true → PT X x (tTest t)) (nb : bOp x = false) : Ex X e x t :=
  ⟨pl, pe, pt, fun op l p h => by rw [h] at nb; cases nb⟩
theorem tgs_fz {C : SC} {sc : Scope} : ∀ {is : List Nat} {es : List Expr}, tgs C sc is es = true → ∀ i ∈ is, C.g i = .fz
  | [], [], _, _, hi => nomatch hi
  | i :: is, .Name x p :: es, h, j, hj => by
    have h' : (sets C sc i x && (decide (C.g i = .fz) && tgs C sc is es)) = true := h
    simp only [Bool.and_eq_true] at h'
    rcases List.mem_cons.mp hj with rfl | hj
    · exact of_decide_eq_true h'.2.1
    · exact tgs_fz h'.2.2 j hj
  | [], _ :: _, h, _, _ => by cases h
  | _ :: _, [], h, _, _ => by cases h
theorem tgOk_fz {C : SC} {sc : Scope} {tg : List Nat} {un : Bool} {e : Expr} (h : tgOk C sc tg un e = true) : ∀ i ∈ tg, C.g i = .fz := by
  unfold tgOk at h
  split at h
  · simp only [Bool.and_eq_true] at h
    intro j hj
    rw [List.mem_singleton.mp hj]
    exact of_decide_eq_true h.2
  · exact tgs_fz h
  · cases h
theorem tup_of {C : SC} {sc : Scope} {tg : List Nat} {e : Expr} (h : tgOk C sc tg true e = true) : ∃ el kk tp, e = .Tuple el kk tp := by
  unfold tgOk at h
  split at h
  · rename_i hh
    cases hh
  · exact ⟨_, _, _, rfl⟩
  · cases h
theorem ix_any {X : Cx} {P : List Nat} {k : List Nat} (h : P.all (fun i => !k.contains i) = true) : ∀ i ∈ P, i ∉ k := fun i hi z => by
  have := List.all_eq_true.mp h i hi
  simp at this
  exact this z
theorem glb_ok {k : Nat} {C : SC} {sc : Scope} {X : Cx} (O : XOk k C sc X) {z y : PySem.Str} {d : D} {p : Pos} (h : (z == y && (gl sc y && (okN y && (scal d && (C.cst.any fun p => p.1 == z && (match p.2, d with
      | .int i, .int j => decide (i = j)
      | .str i, .str j => decide (i = j)
      | _, _ => false)))))) = true) : ∃ v, PE X (.Name y p) (tC v) ∧ scal d = true ∧ ∀ R, Rep X.K R d v := by
  simp only [Bool.and_eq_true, beq_iff_eq] at h
  obtain ⟨rfl, h2, h3, h4, h5⟩ := h
  obtain ⟨q, hq, hq2⟩ := List.any_eq_true.mp h5
  simp only [Bool.and_eq_true, beq_iff_eq] at hq2
  obtain ⟨e1, e2⟩ := hq2
  obtain ⟨u, hu, hr⟩ := O.cst q hq
  rw [e1] at hu
  split at e2
  · rename_i i j eq
    have := of_decide_eq_true e2
    subst this
    rw [eq] at hr
    exact ⟨.int i, pe_glob (gl_ok O.scope h2) hu hr (okN_ok h3).1, rfl, fun _ => rfl⟩
  · rename_i i j eq
    have := of_decide_eq_true e2
    subst this
    rw [eq] at hr
    exact ⟨.str i, pe_glob (gl_ok O.scope h2) hu hr (okN_ok h3).1, rfl, fun _ => rfl⟩
  · cases e2
theorem XOk.blk {k : Nat} {C : SC} {sc scope : Scope} {X : Cx} (O : XOk k C sc X) (s : Shared) (H : Hp) (Cc : Addr) (cl : List (PySem.Str × Addr)) (fp : List Addr) : XOk k C (relS scope sc) (X.blk s H scope (compEnvC scope cl Cc X.env) fp) :=
  ⟨O.N, O.nd, O.calm, by rw [← O.scope]; rfl, O.free, O.cst, O.room⟩
theorem and_pe {K : PySem.W.Frag} {G : Nat → O} {W : WW} {cl : Nat → List D → CO} {σ : L2.St} {H : Hp} {Q : VK} {a b : E} {t u : Ty} (h1 : sr t = true) (h2 : sr u = true) (h : tE K G W .sc (mu (.and_ a b)) (evE cl (.and_ a b)) σ H Q) :
    tAndV (tE K G W t (mu a) (evE cl a)) (tE K G W u (mu b) (evE cl b)) σ H Q := by
  simp only [mu] at h
  refine (and_sem h1 h2 h).mono fun x H1 ⟨c, e, q⟩ => ⟨c, e, ?_⟩
  cases c with
  | true =>
    rw [if_pos rfl] at q ⊢
    exact q.mono fun y H2 ⟨c', e', q'⟩ => by rw [e']; exact q'
  | false => exact q
theorem or_pe {K : PySem.W.Frag} {G : Nat → O} {W : WW} {cl : Nat → List D → CO} {σ : L2.St} {H : Hp} {Q : VK} {a b : E} {t u : Ty} (h1 : sr t = true) (h2 : sr u = true) (h : tE K G W .sc (mu (.or_ a b)) (evE cl (.or_ a b)) σ H Q) :
    tOrV (tE K G W t (mu a) (evE cl a)) (tE K G W u (mu b) (evE cl b)) σ H Q := by
  simp only [mu] at h
  refine (or_sem h1 h2 h).mono fun x H1 ⟨c, e, q⟩ => ⟨c, e, ?_⟩
  cases c with
  | true => exact q
  | false =>
    rw [if_neg Bool.false_ne_true] at q ⊢
    exact q.mono fun y H2 ⟨c', e', q'⟩ => by rw [e']; exact q'
theorem and_pt {K : PySem.W.Frag} {G : Nat → O} {W : WW} {cl : Nat → List D → CO} {σ : L2.St} {H : Hp} {Q : Bool → Hp → Prop} {a b : E} {t u : Ty} (h1 : sr t = true) (h2 : sr u = true) (h : tTest (tE K G W .sc (mu (.and_ a b)) (evE cl (.and_ a b))) σ H Q) :
    tAnd (tTest (tE K G W t (mu a) (evE cl a))) (tTest (tE K G W u (mu b) (evE cl b))) σ H Q := by
  unfold tTest at h
  simp only [mu] at h
  refine (and_sem h1 h2 h).mono fun x H1 ⟨c, e, q⟩ => ⟨c, e, ?_⟩
  cases c with
  | true =>
    rw [if_pos rfl] at q ⊢
    refine q.mono fun y H2 ⟨c', e', q'⟩ => ⟨c', e', ?_⟩
    obtain ⟨c2, e2, q2⟩ := q'
    cases e2
    exact q2
  | false =>
    obtain ⟨c2, e2, q2⟩ := q
    cases e2
    exact q2
theorem or_pt {K : PySem.W.Frag} {G : Nat → O} {W : WW} {cl : Nat → List D → CO} {σ : L2.St} {H : Hp} {Q : Bool → Hp → Prop} {a b : E} {t u : Ty} (h1 : sr t = true) (h2 : sr u = true) (h : tTest (tE K G W .sc (mu (.or_ a b)) (evE cl (.or_ a b))) σ H Q) :
    tOr (tTest (tE K G W t (mu a) (evE cl a))) (tTest (tE K G W u (mu b) (evE cl b))) σ H Q := by
  unfold tTest at h
  simp only [mu] at h
  refine (or_sem h1 h2 h).mono fun x H1 ⟨c, e, q⟩ => ⟨c, e, ?_⟩
  cases c with
  | true =>
    obtain ⟨c2, e2, q2⟩ := q
    cases e2
    exact q2
  | false =>
    rw [if_neg Bool.false_ne_true] at q ⊢
    refine q.mono fun y H2 ⟨c', e', q'⟩ => ⟨c', e', ?_⟩
    obtain ⟨c2, e2, q2⟩ := q'
    cases e2
    exact q2
theorem not_pt {K : PySem.W.Frag} {σ : L2.St} {H : Hp} {Q : Bool → Hp → Prop} {t : TE} (h : tTest (tOpN K .not_ [t]) σ H Q) : tNot (tTest t) σ H Q := by
  have h' : t σ H fun x H1 => ∃ c, x = .bl c ∧ ∃ k, V.bl (!c) = .bl k ∧ Q k H1 := h
  have e : (fun (x : V) (H1 : Hp) => ∃ c, x = .bl c ∧ ∃ k, V.bl (!c) = .bl k ∧ Q k H1) = fun x H1 => ∃ k, x = .bl k ∧ Q (!k) H1 := by
    funext x H1
    refine propext ⟨fun ⟨c, e, k, e2, q⟩ => ⟨c, e, ?_⟩, fun ⟨c, e, q⟩ => ⟨c, e, _, rfl, q⟩⟩
    cases e2
    exact q
  rw [e] at h'
  exact h'
theorem shp_nb {C : SC} {sc : Scope} {o : Op} {x : Expr} {es : List Expr} (h : shp C sc o x = some es) : bOp x = false := by
  unfold shp at h
  split at h <;> first | rfl | cases h
theorem shp_not {C : SC} {sc : Scope} {o : Op} {x : Expr} {es : List Expr} (h : shp C sc o x = some es) (ho : o = .not_) : ∃ a p, x = .UnaryOp .Not a p ∧ es = [a] := by
  unfold shp at h
  split at h
  all_goals first
    | (cases ho; done)
    | (cases h; exact ⟨_, _, rfl, rfl⟩)
    | (cases h; done)
mutual
theorem sE {k : Nat} {C : SC} {cl : Nat → List D → CO} {cls : Nat → Value} : ∀ (e : E) {X : Cx} {sc : Scope} {W : WW} {x : Expr} {ty : Ty}, XOk k C sc X → FnsOk k C cl cls X → PasX cls W X → ckE C sc e x = some ty → Ex X e x (tE X.K C.g W ty (mu e) (evE cl e))
  | .cst d, X, sc, W, x, ty, O, fo, hx, h => by
    simp only [ckE] at h
    split at h
    · rename_i hc
      cases h
      obtain ⟨v, p, hs, hr⟩ := cst_ok (K := X.K) (X := X) hc
      have p2 : PE X x (tE X.K C.g W .sc (mu (.cst d)) (evE cl (.cst d))) := PE.imp p fun σ H Q w => cst_sem (K := X.K) (G := C.g) (W := W) (M := mu (.cst d)) hs hr (by
        have : evE cl (.cst d) = fun st => .ok d st := by funext st; unfold evE; rfl
        rw [this] at w
        exact w)
      unfold isCst at hc
      split at hc
      all_goals first
        | (cases hc; done)
        | exact .of rfl p2 (fun _ => pt_val p2 (fun _ => rfl)) rfl
    · cases h
  | .glb y d, X, sc, W, x, ty, O, fo, hx, h => by
    simp only [ckE] at h
    split at h
    · split at h
      · rename_i hc
        cases h
        obtain ⟨v, p, hs, hr⟩ := glb_ok O hc
        have p2 := PE.imp p fun σ H Q (w : tE X.K C.g W .sc (mu (.glb y d)) (evE cl (.glb y d)) σ H Q) => cst_sem (K := X.K) (G := C.g) (W := W) (M := mu (.glb y d)) hs hr (by
          have : evE cl (.glb y d) = fun st => .ok d st := by funext st; unfold evE; rfl
          rw [this] at w
          exact w)
        exact .of rfl p2 (fun _ => pt_val p2 (fun _ => rfl)) rfl
      · cases h
    · cases h
  | .var i, X, sc, W, x, ty, O, fo, hx, h => by
    simp only [ckE] at h
    split at h
    · rename_i y p
      split at h
      · rename_i hs
        cases h
        have p2 := PE.imp (sees_ok (p := p) O hs) fun σ H Q (w : tE X.K C.g W (tyVar (C.g i) i) (mu (.var i)) (evE cl (.var i)) σ H Q) => var_sem w
        exact .of rfl p2 (fun _ => pt_val p2 (fun _ => rfl)) rfl
      · cases h
    · cases h
  | .sv i, X, sc, W, x, ty, O, fo, hx, h => by
    simp only [ckE] at h
    split at h
    · rename_i y p
      split at h
      · rename_i hs
        cases h
        have p2 := PE.imp (sees_ok (p := p) O hs) fun σ H Q (w : tE X.K C.g W .sc (mu (.sv i)) (evE cl (.sv i)) σ H Q) => sv_sem w
        exact .of rfl p2 (fun _ => pt_val p2 (fun _ => rfl)) rfl
      · cases h
    · cases h
  | .mv i, X, sc, W, x, ty, O, fo, hx, h => by
    simp only [ckE] at h
    split at h
    · rename_i y p
      split at h
      · rename_i hs
        cases h
        have p2 := PE.imp (sees_ok (p := p) O hs) fun σ H Q (w : tE X.K C.g W (.v (C.g i)) (mu (.mv i)) (evE cl (.mv i)) σ H Q) => mv_sem w
        exact .of rfl p2 (fun _ => pt_val p2 (fun _ => rfl)) rfl
      · cases h
    · cases h
  | .rf i, X, sc, W, x, ty, O, fo, hx, h => by
    simp only [ckE] at h
    split at h
    · rename_i y p
      split at h
      · rename_i hs
        cases h
        rw [Bool.and_eq_true] at hs
        have p2 := PE.imp (sees_ok (p := p) O hs.1) fun σ H Q (w : tE X.K C.g W (.rf i) (mu (.rf i)) (evE cl (.rf i)) σ H Q) => rf_sem w
        exact .of rfl p2 (fun _ => pt_val p2 (fun _ => rfl)) rfl
      · cases h
    · cases h
  | .frz a, X, sc, W, x, ty, O, fo, hx, h => by
    simp only [ckE] at h
    have em : mu (.frz a) = mu a := by simp only [mu]
    have ee : evE cl (.frz a) = evE cl a := by funext st; conv => lhs; unfold evE
    have et : tstE (.frz a) = tstE a := by simp only [tstE]
    rw [em, ee]
    split at h
    · rename_i o e1
      cases h
      obtain ⟨p1, p2, p3, p4⟩ := sE a O fo hx e1
      exact ⟨p1, PE.imp p2 fun σ H Q w => frz_sem w, fun z => PT.imp (p3 (et ▸ z)) fun σ H Q w => frz_sem w, fun op l p ex z => ⟨fun wh pins s σ H Q I w => (p4 op l p ex (et ▸ z)).run wh pins s σ H Q I (frz_sem w)⟩⟩
    · rename_i e1
      cases h
      obtain ⟨p1, p2, p3, p4⟩ := sE a O fo hx e1
      exact ⟨p1, p2, fun z => p3 (et ▸ z), fun op l p ex z => p4 op l p ex (et ▸ z)⟩
    · cases h
  | .op o as, X, sc, W, x, ty, O, fo, hx, h => by
    simp only [ckE] at h
    split at h
    · cases h
    · rename_i es e1
      split at h
      · cases h
      · rename_i tys e2
        split at h
        · rename_i hpl
          obtain ⟨ts, L, cc, pl, rr⟩ := sEs as O fo hx e2
          have sem : ∀ σ H Q, tE X.K C.g W ty (mu (.op o as)) (evE cl (.op o as)) σ H Q → tOpN X.K o ts σ H Q := fun σ H Q w => by
            have ee : evE cl (.op o as) = fun st => (evEs cl as st).bind fun ds st1 => match Mini.sem o ds with
              | some d => .ok d st1
              | none => .bad := by
                funext st
                conv => lhs; unfold evE
                try rfl
            simp only [mu] at w
            rw [ee] at w
            exact cc σ H _ (opN_sem h w)
          have nb : bOp x = false := shp_nb e1
          refine .of hpl (PE.imp (op_syn O e1 L) sem) (fun z => ?_) nb
          by_cases hn : o = .not_
          · obtain ⟨a0, p0, rfl, rfl⟩ := shp_not e1 hn
            subst hn
            obtain ⟨t, rfl, _, _⟩ := L.one
            cases as with
            | nil =>
              simp only [ckEs] at e2
              cases e2
            | cons a' as' =>
              have z' : tstE a' = true := by
                simp only [tstE, tstEs] at z
                exact z
              exact PT.imp (pt_not (pl.1 z')) fun σ H Q w => not_pt (K := X.K) (sem σ H _ w)
          · exact PT.imp (op_pt O e1 L hn) fun σ H Q w => sem σ H _ w
        · cases h
  | .and_ a b, X, sc, W, x, ty, O, fo, hx, h => by
    simp only [ckE] at h
    have et : tstE (.and_ a b) = (tstE a && tstE b) := by simp only [tstE]
    split at h
    · split at h
      · rename_i s t e1 e2
        split at h
        · rename_i hs
          cases h
          rw [Bool.and_eq_true] at hs
          have ha := sE a O fo hx e1
          have hb := sE b O fo hx e2
          refine ⟨rfl, PE.imp (pe_and ha.pe (pe_one hb.pe)) fun σ H Q w => and_pe hs.1 hs.2 w, fun z => ?_, fun op l p ex z => ?_⟩
          · rw [et, Bool.and_eq_true] at z
            exact PT.imp (pw_and (ha.pt z.1) (pw_and1 (hb.pt z.2))).pt fun σ H Q w => and_pt hs.1 hs.2 w
          · rw [et, Bool.and_eq_true] at z
            cases ex
            exact ⟨fun wh pins s σ H Q I w => (pw_and (ha.pt z.1) (pw_and1 (hb.pt z.2))).run wh pins s σ H Q I (and_pt hs.1 hs.2 w)⟩
        · cases h
      · cases h
    · split at h
      · rename_i s t e1 e2
        split at h
        · rename_i hs
          cases h
          rw [Bool.and_eq_true] at hs
          have ha := sE a O fo hx e1
          have hb := sE b O fo hx e2
          refine ⟨rfl, PE.imp (pe_and ha.pe hb.pe) fun σ H Q w => and_pe hs.1 hs.2 w, fun z => ?_, fun op l p ex z => ?_⟩
          · rw [et, Bool.and_eq_true] at z
            exact PT.imp (pw_and (ha.pt z.1) (hb.pw _ _ _ rfl z.2)).pt fun σ H Q w => and_pt hs.1 hs.2 w
          · rw [et, Bool.and_eq_true] at z
            cases ex
            exact ⟨fun wh pins s σ H Q I w => (pw_and (ha.pt z.1) (hb.pw _ _ _ rfl z.2)).run wh pins s σ H Q I (and_pt hs.1 hs.2 w)⟩
        · cases h
      · cases h
    · cases h
  | .or_ a b, X, sc, W, x, ty, O, fo, hx, h => by
    simp only [ckE] at h
    have et : tstE (.or_ a b) = (tstE a && tstE b) := by simp only [tstE]
    split at h
    · split at h
      · rename_i s t e1 e2
        split at h
        · rename_i hs
          cases h
          rw [Bool.and_eq_true] at hs
          have ha := sE a O fo hx e1
          have hb := sE b O fo hx e2
          refine ⟨rfl, PE.imp (pe_or ha.pe (pe_one hb.pe)) fun σ H Q w => or_pe hs.1 hs.2 w, fun z => ?_, fun op l p ex z => ?_⟩
          · rw [et, Bool.and_eq_true] at z
            exact PT.imp (pw_or (ha.pt z.1) (pw_or1 (hb.pt z.2))).pt fun σ H Q w => or_pt hs.1 hs.2 w
          · rw [et, Bool.and_eq_true] at z
            cases ex
            exact ⟨fun wh pins s σ H Q I w => (pw_or (ha.pt z.1) (pw_or1 (hb.pt z.2))).run wh pins s σ H Q I (or_pt hs.1 hs.2 w)⟩
        · cases h
      · cases h
    · split at h
      · rename_i s t e1 e2
        split at h
        · rename_i hs
          cases h
          rw [Bool.and_eq_true] at hs
          have ha := sE a O fo hx e1
          have hb := sE b O fo hx e2
          refine ⟨rfl, PE.imp (pe_or ha.pe hb.pe) fun σ H Q w => or_pe hs.1 hs.2 w, fun z => ?_, fun op l p ex z => ?_⟩
          · rw [et, Bool.and_eq_true] at z
            exact PT.imp (pw_or (ha.pt z.1) (hb.pw _ _ _ rfl z.2)).pt fun σ H Q w => or_pt hs.1 hs.2 w
          · rw [et, Bool.and_eq_true] at z
            cases ex
            exact ⟨fun wh pins s σ H Q I w => (pw_or (ha.pt z.1) (hb.pw _ _ _ rfl z.2)).run wh pins s σ H Q I (or_pt hs.1 hs.2 w)⟩
        · cases h
      · cases h
    · cases h
  | .ite c a b, X, sc, W, x, ty, O, fo, hx, h => by
    simp only [ckE] at h
    split at h
    · split at h
      · rename_i s t u e1 e2 e3
        split at h
        · rename_i hs
          rw [Bool.and_eq_true] at hs
          have hc := sE c O fo hx e1
          have ha := sE a O fo hx e2
          have hb := sE b O fo hx e3
          refine .of rfl (PE.imp (pe_ifExp (hc.pt hs.2) ha.pe hb.pe) fun σ H Q w => ?_) (fun z => by simp [tstE] at z) rfl
          simp only [mu] at w
          exact ite_sem hs.1 h w
        · cases h
      · cases h
    · cases h
  | .ch o1 o2 a b c, X, sc, W, x, ty, O, fo, hx, h => by
    simp only [ckE] at h
    split at h
    · split at h
      · rename_i s t u e1 e2 e3
        split at h
        · rename_i hs
          cases h
          simp only [Bool.and_eq_true] at hs
          obtain ⟨h1, h2, h3, h4, h5⟩ := hs
          have ha := sE a O fo hx e1
          have hb := sE b O fo hx e2
          have hc := sE c O fo hx e3
          obtain ⟨o1', n1, n2⟩ := cmpIs_ok (X := X) h4
          obtain ⟨o2', n3, n4⟩ := cmpIs_ok (X := X) h5
          have sem : ∀ σ H Q, tE X.K C.g W .sc (mu (.ch o1 o2 a b c)) (evE cl (.ch o1 o2 a b c)) σ H Q → tChain (rcm o1) (rcm o2) (tE X.K C.g W s (mu a) (evE cl a)) (tE X.K C.g W t (mu b) (evE cl b)) (tE X.K C.g W u (mu c) (evE cl c)) σ H Q := fun σ H Q w => by
            simp only [mu] at w
            exact ch_sem h1 h2 h3 w
          exact .of rfl (PE.imp (pe_chain o1' o2' ha.pe hb.pe hc.pe (nobehind _ n3 n4)) sem) (fun _ => PT.imp (pt_chain o1' o2' ha.pe hb.pe hc.pe (nobehind _ n3 n4)) fun σ H Q w => sem σ H _ w) rfl
        · cases h
      · cases h
    · cases h
  | .comp kk tg un s c e, X, sc, W, x, ty, O, fo, hx, h => by
    simp only [ckE] at h
    split at h
    · rename_i elt t it ifs scope pos
      split at h
      · rename_i hk
        simp only [Bool.and_eq_true] at hk
        obtain ⟨k1, k2, k3⟩ := hk
        have k2 := of_decide_eq_true k2
        split at h
        · rename_i P tc tye e1 e2 e3
          split at h
          · rename_i hq
            cases h
            simp only [Bool.and_eq_true] at hq
            obtain ⟨q1, q2, q3⟩ := hq
            have ow := own_eq k2
            have hs := sSrc s O fo hx e1
            have nd : X.N.Nodup := by rw [O.N]; exact O.nd
            have ok : BlkOk X.N X.env.scope scope (tg.filterMap fun i => (C.N[i]?).map fun x => (x, i)) := by
              rw [O.N, O.scope]
              exact blkOk_by k1
            have fob : ∀ s H Cc cll fp, FnsOk k C cl cls (X.blk s H scope (compEnvC scope cll Cc X.env) fp) := fun s H Cc cll fp => ⟨fo.fn, fo.wf⟩
            have hxb : ∀ s H Cc cll fp, PasX cls WF (X.blk s H scope (compEnvC scope cll Cc X.env) fp) := fun s H Cc cll fp σ pins Hh s1 e s2 I z => by
              obtain ⟨_, _, _, _, _, _, _, _, _, _, _, _, c, _, _, w⟩ := z
              exact w.elim
            have hL : ∀ s H Cc cll fp, ∀ x, Loc scope x → Loc (X.blk s H scope (compEnvC scope cll Cc X.env) fp).env.scope x ∧ ((X.blk s H scope (compEnvC scope cll Cc X.env) fp).fn x = true ∨ (X.blk s H scope (compEnvC scope cll Cc X.env) fp).env.scope.names.lookup x = some .local) := fun s H Cc cll fp x hl => by
              rcases hl with hl | hl
              · have z : (relS scope X.env.scope).names.lookup x = some .local := lookup_relS_keep (by decide) hl
                exact ⟨.inl z, .inr z⟩
              · have z : (relS scope X.env.scope).names.lookup x = some .cell := lookup_relS_keep (by decide) hl
                refine ⟨.inr z, .inl ?_⟩
                show (scope.names.lookup x == some .cell) = true
                rw [hl]
                rfl
            have pg0 := fun s H Cc cll fp => pg_ok (X := X.blk s H scope (compEnvC scope cll Cc X.env) fp) O.calm nd O.N (hL s H Cc cll fp) k3
            have srt : sr tc = true := by
              cases c with
              | none =>
                simp only [ckC] at e2
                split at e2
                · cases e2; rfl
                · cases e2
              | some a =>
                simp only [ckC] at e2
                split at e2
                · split at e2
                  · split at e2
                    · rename_i hh
                      cases e2
                      rw [Bool.and_eq_true] at hh
                      exact hh.1
                    · cases e2
                  · cases e2
                · cases e2
            have pp := pe_lc (elt := elt) (pos := pos) (g := tgG X.K tg un) (tt := tTs X.K C.g WF cl tc c) (te := tE X.K C.g WF tye (mu e) (evE cl e)) O.calm nd (hs.1 t k3) ok (fun s H Cc cll fp => (pg0 s H Cc cll fp).1) (fun s1 H Cc cll fp => sC c (O.blk s1 H Cc cll fp) (fob s1 H Cc cll fp) (hxb s1 H Cc cll fp) e2)
              (fun s1 H Cc cll fp => (sE e (O.blk s1 H Cc cll fp) (fob s1 H Cc cll fp) (hxb s1 H Cc cll fp) e3).pe) hs.2
            rw [ow] at pp
            have p2 := PE.imp pp fun σ H Q (w : tE X.K C.g W (.v (.lst kk)) (mu (.comp kk tg un s c e)) (evE cl (.comp kk tg un s c e)) σ H Q) => by
              simp only [mu] at w
              exact comp_sem (K := X.K) q1 (ix_any (X := X) q2) (ix_any (X := X) q3) (tgOk_fz k3) srt w
            exact .of rfl p2 (fun _ => pt_val p2 (fun _ => rfl)) rfl
          · cases h
        · cases h
      · cases h
    · cases h
  | .call f as, X, sc, W, x, ty, O, fo, hx, h => by
    simp only [ckE] at h
    split at h
    · rename_i y p0 e0 es0 pos
      split at h
      · rename_i fd tys e1 e2
        split at h
        · rename_i hs
          cases h
          simp only [Bool.and_eq_true, beq_iff_eq] at hs
          obtain ⟨h1, h2, h3, h4, h5, h6, h7⟩ := hs
          subst h1
          have h4 := of_decide_eq_true h4
          obtain ⟨ts, L, cc, pl, rr⟩ := sEs as O fo hx e2
          obtain ⟨fa, FD, m1, m2, m3, m4⟩ := fo.fn f fd e1
          have wf := fo.wf f fd e1
          have hg : (fd.G.take fd.np).length = fd.np := by rw [List.length_take]; omega
          have st : starEach (e0 :: es0) X.env = (false, eval e0 X.env) :: starEach es0 X.env := star_cons (L.nst e0 List.mem_cons_self)
          have p2 := PE.imp (pe_callSD (p := p0) (pos := pos) m4 O.room (gl_ok O.scope h2) m1 m2 m3 .nil hx L.pa (okN_ok h3).1 st (star_any fun z hz => L.nst z (List.mem_cons_of_mem _ hz)))
            fun σ H Q (w : tE X.K C.g W (.v fd.ret) (mu (.call f as)) (evE cl (.call f as)) σ H Q) => by
              simp only [mu] at w
              have z := cc σ H _ (call_sem (cls := cls) h4 hg h5 rr h6 (fun vs hv => by rw [hg, hv]) w)
              show chn ts σ H fun vs H1 => spF X.K cl cls fd f (vs ++ []) H1 Q (WEx cls W σ)
              simp only [List.append_nil]
              exact z
          refine .of ?_ p2 (fun _ => pt_val p2 (fun _ => rfl)) rfl
          exact h7
        · cases h
      · cases h
    · cases h
  | .pop i a, X, sc, W, x, ty, O, fo, hx, h => by
    simp only [ckE] at h
    split at h
    · rename_i y p0 m ap b cp
      split at h
      · rename_i t c e1 e2
        split at h
        · rename_i hs
          cases h
          simp only [Bool.and_eq_true, beq_iff_eq, Bool.not_eq_true'] at hs
          obtain ⟨h1, rfl, h3, h4, h5, h6⟩ := hs
          have ha := sE a O fo hx e1
          have hi : i ∉ mu a := fun z => by
            rw [List.contains_iff_mem.mpr z] at h6
            cases h6
          have st : starEach [b] X.env = (false, eval b X.env) :: starEach [] X.env := star_cons (nst_of h5)
          have p2 := PE.imp (pe_bm (cpos := cp) (apos := ap) (name := "pop") (T := "list") (id := "list.pop") PySem.F.plainAttrs_list PySem.F.slot_list_pop PySem.F.type_list_pop mt_popAt (sees_ok (p := p0) O h1) (pa_cons ha.pe pa_nil st) rfl (by rw [st]; rfl) h3 st rfl)
            fun σ H Q (w : tE X.K C.g W (.v c) (mu (.pop i a)) (evE cl (.pop i a)) σ H Q) => by
              simp only [mu] at w
              exact pop_sem e2 h4 hi w
          exact .of rfl p2 (fun _ => pt_val p2 (fun _ => rfl)) rfl
        · cases h
      · cases h
    · cases h
  | .bm m a as, X, sc, W, x, ty, O, fo, hx, h => by
    simp only [ckE] at h
    split at h
    · rename_i o y ap b cp
      split at h
      · rename_i t tys e1 e2
        split at h
        · rename_i hs
          simp only [Bool.and_eq_true, beq_iff_eq] at hs
          obtain ⟨rfl, h3, h4⟩ := hs
          have ha := sE a O fo hx e1
          obtain ⟨ts, L, cc, pl, rr⟩ := sEs as O fo hx e2
          have st : starEach [b] X.env = (false, eval b X.env) :: starEach [] X.env := star_cons (L.nst b List.mem_cons_self)
          cases m with
          | cnt =>
            have p2 := PE.imp (pe_bm (cpos := cp) (apos := ap) (name := "count") (T := "list") (id := "list.count") PySem.F.plainAttrs_list PySem.F.slot_list_count PySem.F.type_list_count (mt_countD O.hu) ha.pe L.pa (attr_base ha.pl) (by rw [st]; rfl) h3 st rfl)
              fun σ H Q (w : tE X.K C.g W ty (mu (.bm .cnt a as)) (evE cl (.bm .cnt a as)) σ H Q) => by
                simp only [mu] at w
                exact bm_sem h h4 (fun σ H Q w => cc σ H Q w) w
            exact .of rfl p2 (fun _ => pt_val p2 (fun _ => rfl)) rfl
        · cases h
      · cases h
    · cases h
theorem sC {k : Nat} {C : SC} {cl : Nat → List D → CO} {cls : Nat → Value} : ∀ (c : Option') {X : Cx} {sc : Scope} {W : WW} {es : List Expr} {t : Ty}, XOk k C sc X → FnsOk k C cl cls X → PasX cls W X → ckC C sc c es = some t → PTs X es (tTs X.K C.g W cl t c)
  | .none, X, sc, W, es, t, O, fo, hx, h => by
    simp only [ckC] at h
    split at h
    · exact pts_nil
    · cases h
  | .some a, X, sc, W, es, t, O, fo, hx, h => by
    simp only [ckC] at h
    split at h
    · split at h
      · rename_i t e1
        split at h
        · rename_i hh
          cases h
          rw [Bool.and_eq_true] at hh
          exact pts_one ((sE a O fo hx e1).pt hh.2)
        · cases h
      · cases h
    · cases h
theorem sEs {k : Nat} {C : SC} {cl : Nat → List D → CO} {cls : Nat → Value} : ∀ (as : Es) {X : Cx} {sc : Scope} {W : WW} {es : List Expr} {tys : List Ty}, XOk k C sc X → FnsOk k C cl cls X → PasX cls W X → ckEs C sc as es = some tys →
    ∃ ts, PEl X es ts ∧ (∀ σ H Q, tA X.K C.g W tys (muEs as) (evEs cl as) σ H Q → chn ts σ H Q) ∧ PTl X as es ts ∧ refs as = tys.map tyRef
  | .nil, X, sc, W, es, tys, O, fo, hx, h => by
    simp only [ckEs] at h
    split at h
    · cases h
      refine ⟨[], .nil, fun σ H Q w => tA_nil (K := X.K) (G := C.g) (W := W) ?_, trivial, rfl⟩
      have : evEs cl .nil = fun st => .ok [] st := by funext st; unfold evEs; rfl
      rw [this] at w
      simp only [muEs] at w
      exact w
    · cases h
  | .cons a as, X, sc, W, es, tys, O, fo, hx, h => by
    simp only [ckEs] at h
    split at h
    · rename_i e es
      split at h
      · rename_i t tys e1 e2
        split at h
        · rename_i hs
          cases h
          rw [Bool.and_eq_true] at hs
          have ha := sE a O fo hx e1
          obtain ⟨ts, L, cc, pl, rr⟩ := sEs as O fo hx e2
          refine ⟨_ :: ts, .cons ha.pl ha.pe L, fun σ H Q w => ?_, ⟨ha.pt, pl⟩, ?_⟩
          · have ee : evEs cl (.cons a as) = fun st => (evE cl a st).bind fun d st1 => (evEs cl as st1).map fun ds => d :: ds := by funext st; conv => lhs; unfold evEs
            rw [ee] at w
            simp only [muEs] at w
            exact chn_of (tA_cons hs.1 w) cc
          · show ref1 a :: refs as = _
            rw [rr, of_decide_eq_true hs.2]
            rfl
        · cases h
      · cases h
    · cases h
theorem sSrc {k : Nat} {C : SC} {cl : Nat → List D → CO} {cls : Nat → Value} : ∀ (s : Src) {X : Cx} {sc : Scope} {W : WW} {x : Expr} {un : Bool} {P : List Nat}, XOk k C sc X → FnsOk k C cl cls X → PasX cls W X → ckSrc C sc un s x = some P →
    (∀ {tg : List Nat} {sc' : Scope} (t : Expr), tgOk C sc' tg un t = true → PI X t x (tI X.K C.g W P (muSrc s) (evSrc cl s))) ∧ ∀ v, foldedSetIterable x X.env v = pure v
  | .rng1 a, X, sc, W, x, un, P, O, fo, hx, h => by
    simp only [ckSrc] at h
    split at h
    · split at h
      · rename_i t e1
        split at h
        · rename_i hs
          cases h
          rw [Bool.and_eq_true] at hs
          have ha := sE a O fo hx e1
          obtain ⟨rfl, g, m, n, d⟩ := blt_ok O hs.2
          have st := star_cons (es := []) (env := X.env) (nst_of ha.pl)
          refine ⟨fun t _ => ?_, fun v => rfl⟩
          exact ⟨fun pins s σ H R I w => (pi_range1 (tg := t) g m (pa_cons ha.pe pa_nil st) st).run pins s σ H R I (tS_rng1 hs.1 w)⟩
        · cases h
      · cases h
    · cases h
  | .rng2 a b, X, sc, W, x, un, P, O, fo, hx, h => by
    simp only [ckSrc] at h
    split at h
    · rename_i f p0 xa xb pos0
      split at h
      · rename_i t u e1 e2
        split at h
        · rename_i hs
          cases h
          simp only [Bool.and_eq_true] at hs
          obtain ⟨h1, h2, h3, h4⟩ := hs
          have ha := sE a O fo hx e1
          have hb := sE b O fo hx e2
          obtain ⟨rfl, g, m, n, d⟩ := blt_ok O h3
          have st2 := star_cons (es := []) (env := X.env) (nst_of hb.pl)
          have st1 := star_cons (es := [xb]) (env := X.env) (nst_of ha.pl)
          refine ⟨fun t _ => ?_, fun v => rfl⟩
          exact ⟨fun pins s σ H R I w => (pi_range2 (tg := t) g m (pa_cons ha.pe (pa_cons hb.pe pa_nil st2) st1) (by rw [st1, st2]; rfl) st2).run pins s σ H R I (tS_rng2 h1 h2 h4 w)⟩
        · cases h
      · cases h
    · cases h
  | .seq a, X, sc, W, x, un, P, O, fo, hx, h => by
    simp only [ckSrc] at h
    split at h
    · rename_i t e1
      split at h
      · rename_i hs
        cases h
        have ha := sE a O fo hx e1
        refine ⟨fun t _ => ?_, fun v => fold_pln ha.pl _ _⟩
        have p := pi_seq (tg := t) ha.pe
        exact ⟨fun pins s σ H R I w => p.run pins s σ H R I (tS_seq hs w)⟩
      · cases h
    · cases h
  | .zip as, X, sc, W, x, un, P, O, fo, hx, h => by
    simp only [ckSrc] at h
    split at h
    · rename_i f p0 xa xb xc pos0
      split at h
      · rename_i tys e1
        split at h
        · rename_i hs
          cases h
          simp only [Bool.and_eq_true] at hs
          obtain ⟨rfl, h2, h3⟩ := hs
          obtain ⟨ts, L, cc, pl, rr⟩ := sEs as O fo hx e1
          obtain ⟨rfl, g, m, n, d⟩ := blt_ok O h3
          have st := star_cons (es := [xb, xc]) (env := X.env) (L.nst xa List.mem_cons_self)
          refine ⟨fun {tg sc'} t ht => ?_, fun v => rfl⟩
          obtain ⟨el, kk, tp, rfl⟩ := tup_of ht
          exact ⟨fun pins s σ H R I w => (pi_zip3T g m L.pa st (star_any fun z hz => L.nst z (List.mem_cons_of_mem _ hz))).run pins s σ H R I (cc σ H _ (tS_zip3 h2 w))⟩
        · cases h
      · cases h
    · cases h
end
end Mini

/-! Mini, part 18: what a statement's run says of the machine. -/
namespace Mini
open PySem (Expr Stmt Operator CmpOp UnaryOp BoolOp Const Pos Scope NameKind Addr)
open PySem PyProof.Rows
open L2
def AftS (K : PySem.W.Frag) (G : Nat → O) (W : WW) (ret : O) (A M : List Nat) (σ : L2.St) (R : Hp) (F : Nat → List Addr) (H : Hp) (st : Sl) (En : Ends) : SO → Prop
  | .nx st' => ∀ σ' R' F' H', Rel K G σ' st' R' H' F' → (∀ i, i ∉ A → σ'[i]? = σ[i]?) → Stp M R F H R' F' H' [] → (∀ i, i ∉ M → get st' i = get st i) → En.nx σ' H'
  | .rt d st' => ∀ σ' v R' F' H' f, Rel K G σ' st' R' H' F' → (∀ i, i ∉ A → σ'[i]? = σ[i]?) → RpO K R' H' ret d v f → Stp M R F H R' F' H' f → En.rt v H'
  | .ex c st' => ∀ σ' R' F' H', Rel K G σ' st' R' H' F' → (∀ i, i ∉ A → σ'[i]? = σ[i]?) → Stp M R F H R' F' H' [] → W c σ' H'
  | .bad => False
def tS (K : PySem.W.Frag) (G : Nat → O) (W : WW) (ret : O) (A M : List Nat) (run : Sl → SO) : TS := fun En σ H => ∃ st R F, Rel K G σ st R H F ∧ AftS K G W ret A M σ R F H st En (run st)
section
variable {K : PySem.W.Frag} {G : Nat → O} {W : WW} {ret : O} {σ σ' : L2.St} {st st' st1 : Sl} {R H R' H' R0 H0 R1 H1 R2 H2 : Hp} {F F' F0 F1 F2 : Nat → List Addr} {A A1 A2 M M1 M2 M3 P : List Nat} {f f1 f2 f3 g g' : List Addr} {ty t : Ty} {d : D} {v : V} {ds ds' : List D} {vs vs' : List V} {En : Ends} {cl : Nat → List D → CO} {c k : O} {p : Addr} {i : Nat}
theorem aftS_out {x : SO} (hs : ∀ i, i ∉ A1 → σ'[i]? = σ[i]?) (s : Stp M1 R F H R1 F1 H1 []) (e : ∀ i, i ∉ M1 → get st1 i = get st i) (h : AftS K G W ret (A1 ++ A2) (M1 ++ M2) σ R F H st En x) : AftS K G W ret A2 M2 σ' R1 F1 H1 st1 En x := by
  have key : ∀ {σ2 : L2.St}, (∀ i, i ∉ A2 → σ2[i]? = σ'[i]?) → ∀ i, i ∉ A1 ++ A2 → σ2[i]? = σ[i]? := fun z i hi => by
    rw [List.mem_append, not_or] at hi
    rw [z i hi.2, hs i hi.1]
  cases x with
  | nx st' =>
    intro σ2 R2 F2 H2 r z t q
    refine h σ2 R2 F2 H2 r (key z) (s.trans t) fun i hi => ?_
    rw [List.mem_append, not_or] at hi
    rw [q i hi.2, e i hi.1]
  | rt d st' => exact fun σ2 v R2 F2 H2 f r z p t => h σ2 v R2 F2 H2 f r (key z) p (s.trans t)
  | ex c st' => exact fun σ2 R2 F2 H2 r z t => h σ2 R2 F2 H2 r (key z) (s.trans t)
  | bad => exact h
theorem AftS.weak {x : SO} (hA : ∀ i ∈ A1, i ∈ A2) (hM : ∀ i ∈ M1, i ∈ M2) (h : AftS K G W ret A2 M2 σ R F H st En x) : AftS K G W ret A1 M1 σ R F H st En x := by
  cases x with
  | nx st' => exact fun σ2 R2 F2 H2 r z t q => h σ2 R2 F2 H2 r (fun i hi => z i fun y => hi (hA i y)) (t.weak hM) fun i hi => q i fun y => hi (hM i y)
  | rt d st' => exact fun σ2 v R2 F2 H2 f r z p t => h σ2 v R2 F2 H2 f r (fun i hi => z i fun y => hi (hA i y)) p (t.weak hM)
  | ex c st' => exact fun σ2 R2 F2 H2 r z t => h σ2 R2 F2 H2 r (fun i hi => z i fun y => hi (hA i y)) (t.weak hM)
  | bad => exact h
theorem seq_sem {a : Sl → SO} {as : Sl → SO} (h : tS K G W ret (A1 ++ A2) (M1 ++ M2) (fun st => match a st with | .nx st1 => as st1 | r => r) En σ H) : tSeq (tS K G W ret A1 M1 a) (tS K G W ret A2 M2 as) En σ H := by
  obtain ⟨st, R, F, r, h⟩ := h
  refine ⟨st, R, F, r, ?_⟩
  cases e : a st with
  | bad => simp only [e] at h; exact h
  | nx st1 =>
    simp only [e] at h
    exact fun σ1 R1 F1 H1 r1 z s q => ⟨st1, R1, F1, r1, aftS_out z s q h⟩
  | rt d st1 =>
    simp only [e] at h
    exact AftS.weak (En := { En with nx := tS K G W ret A2 M2 as En }) (fun i hi => List.mem_append_left _ hi) (fun i hi => List.mem_append_left _ hi) (show AftS K G W ret (A1 ++ A2) (M1 ++ M2) σ R F H st { En with nx := _ } (.rt d st1) from h)
  | ex c st1 =>
    simp only [e] at h
    exact AftS.weak (En := { En with nx := tS K G W ret A2 M2 as En }) (fun i hi => List.mem_append_left _ hi) (fun i hi => List.mem_append_left _ hi) (show AftS K G W ret (A1 ++ A2) (M1 ++ M2) σ R F H st { En with nx := _ } (.ex c st1) from h)
/-- an expression first -/
theorem e_first {run : Sl → Out D} {x : Sl → SO} {Q : VK} (h : tS K G W ret A (M1 ++ M2) x En σ H) (hx : ∀ st k st1, run st = .exc k st1 → x st = .ex k st1) (hb : ∀ st, run st = .bad → x st = .bad)
    (k : ∀ st R F d st1 v R1 F1 H1 f, Rel K G σ st R H F → run st = .ok d st1 → AftS K G W ret A (M1 ++ M2) σ R F H st En (x st) → Rel K G σ st1 R1 H1 F1 → RpT K σ R1 H1 F1 ty d v f → Stp M1 R F H R1 F1 H1 f → (∀ i, i ∉ M1 → get st1 i = get st i) → Q v H1) :
    tE K G W ty M1 run σ H Q := by
  obtain ⟨st, R, F, r, h⟩ := h
  refine ⟨st, R, F, r, ?_⟩
  cases e : run st with
  | bad =>
    rw [hb st e] at h
    exact h
  | exc c st1 =>
    rw [hx st c st1 e] at h
    exact fun R1 F1 H1 r1 s q => h σ R1 F1 H1 r1 (fun _ _ => rfl) (s.weak fun i hi => List.mem_append_left _ hi)
  | ok d st1 => exact fun v R1 F1 H1 f r1 p s q => k st R F d st1 v R1 F1 H1 f r e h r1 p s q
/-! ### a slot is set -/
theorem Stp.setO (s : Stp M R0 F0 H0 R F H (f1 ++ f2)) (i : Nat) : Stp (M ++ [i]) R0 F0 H0 R (wF F i f1) H f2 := by
  have up : ∀ {a}, ((∃ i, i ∈ M ∧ a ∈ F0 i) ∨ H0 a = none) → (∃ j, j ∈ M ++ [i] ∧ a ∈ F0 j) ∨ H0 a = none := fun {a} h => by
    rcases h with ⟨j, hj, z⟩ | z
    · exact .inl ⟨j, List.mem_append_left _ hj, z⟩
    · exact .inr z
  refine ⟨fun j hj => ?_, fun a h => ?_, fun a w e k => s.fr a w e fun j hj => k j (List.mem_append_left _ hj), s.kp, s.ex, fun a w e => ?_, fun a ha j z => ?_, (List.nodup_append.mp s.nd).2.1, fun a ha => s.off a (List.mem_append_right _ ha)⟩
  · rw [List.mem_append, not_or, List.mem_singleton] at hj
    rw [wF_ne hj.2, s.un j hj.1]
  · rcases h with h | ⟨j, hj, h⟩
    · exact up (s.org a (.inl (List.mem_append_right _ h)))
    · by_cases e : j = i
      · subst e
        rw [wF_same] at h
        exact up (s.org a (.inl (List.mem_append_left _ h)))
      · rw [wF_ne e] at h
        exact up (s.org a (.inr ⟨j, (List.mem_append.mp hj).resolve_right fun z => e (List.mem_singleton.mp z), h⟩))
  · rcases s.ro a w e with z | z
    · exact .inl z
    · exact .inr (up z)
  · by_cases e : j = i
    · subst e
      rw [wF_same] at z
      exact (List.nodup_append.mp s.nd).2.2 a z a ha rfl
    · rw [wF_ne e] at z
      exact s.dj a (List.mem_append_right _ ha) j z
theorem set_ok (r : Rel K G σ st R H F) (p : RpO K R H (G i) d v f1) (s : Stp M R0 F0 H0 R F H (f1 ++ f2)) : ∃ F', Rel K G (σ.set i (some v)) (put st i (some d)) R H F' ∧ Stp (M ++ [i]) R0 F0 H0 R F' H f2 := by
  by_cases hi : i < st.length
  · refine ⟨wF F i f1, ⟨by rw [len_put, List.length_set]; exact r.len, fun j d' e => ?_, fun j e => ?_, fun j => ?_, fun j k a h1 h2 => ?_, r.sub, fun j a ha => ?_⟩, s.setO i⟩
    · by_cases hj : j = i
      · subst hj
        rw [get_put_same hi] at e
        cases e
        refine ⟨v, List.getElem?_set_self (by rw [← r.len]; exact hi), ?_⟩
        rw [wF_same]
        exact p
      · rw [get_put_ne hj] at e
        obtain ⟨w, e1, e2⟩ := r.sl j d' e
        refine ⟨w, by rw [List.getElem?_set_ne (Ne.symm hj)]; exact e1, ?_⟩
        rw [wF_ne hj]
        exact e2
    · by_cases hj : j = i
      · subst hj
        rw [get_put_same hi] at e
        cases e
      · rw [get_put_ne hj] at e
        rw [wF_ne hj]
        exact r.em j e
    · by_cases hj : j = i
      · subst hj
        rw [wF_same]
        exact (List.nodup_append.mp s.nd).1
      · rw [wF_ne hj]
        exact r.nd j
    · by_cases hj : j = i
      · by_cases hk : k = i
        · rw [hj, hk]
        · subst hj
          rw [wF_same] at h1
          rw [wF_ne hk] at h2
          exact absurd h2 (s.dj a (List.mem_append_left _ h1) k)
      · by_cases hk : k = i
        · subst hk
          rw [wF_same] at h2
          rw [wF_ne hj] at h1
          exact absurd h1 (s.dj a (List.mem_append_left _ h2) j)
        · rw [wF_ne hj] at h1
          rw [wF_ne hk] at h2
          exact r.dj _ _ _ h1 h2
    · by_cases hj : j = i
      · subst hj
        rw [wF_same] at ha
        exact s.off a (List.mem_append_left _ ha)
      · rw [wF_ne hj] at ha
        exact r.off j a ha
  · have s2 := s.setO i
    refine ⟨F, ⟨by rw [len_put, List.length_set]; exact r.len, fun j d' e => ?_, fun j e => ?_, r.nd, r.dj, r.sub, r.off⟩, ?_⟩
    · by_cases hj : j = i
      · subst hj
        have lt := get_lt e
        rw [len_put] at lt
        exact absurd lt hi
      · rw [get_put_ne hj] at e
        obtain ⟨w, e1, e2⟩ := r.sl j d' e
        exact ⟨w, by rw [List.getElem?_set_ne (Ne.symm hj)]; exact e1, e2⟩
    · by_cases hj : j = i
      · subst hj
        exact r.em j (get_none (by omega))
      · rw [get_put_ne hj] at e
        exact r.em j e
    · refine ⟨fun j hj => s.un j fun z => hj (List.mem_append_left _ z), fun a h => ?_, s2.fr, s2.kp, s2.ex, s2.ro, fun a ha j z => s.dj a (List.mem_append_right _ ha) j z, s2.nd, s2.off⟩
      rcases h with h | ⟨j, hj, h⟩
      · exact s2.org a (.inl h)
      · by_cases e : j = i
        · subst e
          rw [r.em j (get_none (by omega))] at h
          cases h
        · refine s2.org a (.inr ⟨j, hj, ?_⟩)
          rw [wF_ne e]
          exact h
def asgT (o : O) (ty : Ty) : Bool := kept o ty
theorem set_semS {e : E} (hk : kept (G i) ty = true) (h : tS K G W ret [i] (mu e ++ [i]) (evS cl (.set i e)) En σ H) : tAsg (tE K G W ty (mu e) (evE cl e)) (gName i) En σ H := by
  refine e_first h (fun st k st1 e1 => by unfold evS; rw [e1]) (fun st e1 => by unfold evS; rw [e1]) fun st R F d st1 v R1 F1 H1 f r e1 h r1 p s q => ?_
  unfold evS at h
  rw [e1] at h
  have s' : Stp (mu e) R F H R1 F1 H1 (f ++ []) := by rw [List.append_nil]; exact s
  obtain ⟨F2, r2, s2⟩ := set_ok r1 (kept_ok hk p) s'
  refine h _ R1 F2 H1 r2 (fun j hj => List.getElem?_set_ne fun z => hj (by rw [z]; exact List.mem_cons_self)) s2 fun j hj => ?_
  rw [List.mem_append, not_or, List.mem_singleton] at hj
  rw [get_put_ne hj.2, q j hj.1]
/-! ### several slots at once -/
theorem bind_own : ∀ {is : List Nat} {ds : List D} {vs : List V} {st st2 : Sl} {σ : L2.St} {F : Nat → List Addr} {M : List Nat} {g : List Addr} {Q : L2.St → Hp → Prop}, Rel K G σ st R H F → (∀ i ∈ is, G i = c) → All3 (RpO K R H c) ds vs g → Stp M R0 F0 H0 R F H g → bindL is ds st = some st2 →
    (∀ σ2 F2, Rel K G σ2 st2 R H F2 → (∀ i, i ∉ is → σ2[i]? = σ[i]? ∧ get st2 i = get st i) → Stp (M ++ is) R0 F0 H0 R F2 H [] → Q σ2 H) → gsN is vs σ H Q ∧ vs.length = is.length
  | [], _, _, st, st2, σ, F, M, g, Q, r, hg, q, s, hb, k => by
    cases q with
    | nil =>
      cases hb
      exact ⟨⟨rfl, k σ F r (fun _ _ => ⟨rfl, rfl⟩) (by rw [List.append_nil]; exact s)⟩, rfl⟩
    | cons _ _ => cases hb
  | i :: is, _, _, st, st2, σ, F, M, g, Q, r, hg, q, s, hb, k => by
    cases q with
    | nil => cases hb
    | @cons d v f ds vs g a b =>
      have hb' : bindL is ds (put st i (some d)) = some st2 := hb
      obtain ⟨F2, r2, s2⟩ := set_ok (i := i) r (by rw [hg i List.mem_cons_self]; exact a) s
      obtain ⟨z1, z2⟩ := bind_own (Q := Q) r2 (fun j hj => hg j (List.mem_cons_of_mem _ hj)) b s2 hb' fun σ2 F3 r3 e3 s3 => k σ2 F3 r3 (fun j hj => by
        rw [List.mem_cons, not_or] at hj
        obtain ⟨e1, e2⟩ := e3 j hj.2
        exact ⟨by rw [e1, List.getElem?_set_ne (Ne.symm hj.1)], by rw [e2, get_put_ne hj.1]⟩) (s3.weak fun j hj => by
        rw [List.append_assoc] at hj
        exact hj)
      exact ⟨⟨v, vs, rfl, z1⟩, by rw [List.length_cons, List.length_cons, z2]⟩
def unT : Bool → Ty → Option O
  | _, .v .fz => some .fz
  | false, .v (.tup c) => some c
  | true, .v (.lst c) => some c
  | _, _ => none
def gUn (K : PySem.W.Frag) : Bool → Nat → TGs → TG
  | false => gTup K
  | true => gLst K
theorem unp_semS {l : Bool} {is : List Nat} {e : E} (ht : unT l ty = some c) (hg : ∀ i ∈ is, G i = c) (h : tS K G W ret is (mu e ++ is) (evS cl (.unp l is e)) En σ H) : tAsg (tE K G W ty (mu e) (evE cl e)) (gUn K l is.length (gsN is)) En σ H := by
  refine e_first h (fun st k st1 e1 => by unfold evS; rw [e1]) (fun st e1 => by unfold evS; rw [e1]) fun st R F d st1 v R1 F1 H1 f r e1 h r1 p s q => ?_
  unfold evS at h
  rw [e1] at h
  simp only at h
  split at h
  · rename_i ds ed
    split at h
    · rename_i st2 eb
      have key : ∀ {vs : List V} {g : List Addr}, All3 (RpO K R1 H1 c) ds vs g → Stp (mu e) R F H R1 F1 H1 g → gsN is vs σ H1 En.nx ∧ vs.length = is.length := fun {vs g} a s =>
        bind_own r1 hg a s eb fun σ2 F2 r2 e2 s2 => h σ2 R1 F2 H1 r2 (fun j hj => (e2 j hj).1) s2 fun j hj => by
          rw [List.mem_append, not_or] at hj
          rw [(e2 j hj.2).2, q j hj.1]
      have dropP : ∀ {p : Addr} {g : List Addr}, Stp (mu e) R F H R1 F1 H1 (p :: g) → Stp (mu e) R F H R1 F1 H1 g := fun {p g} s =>
        ⟨s.un, fun a h => s.org a (h.elim (fun z => .inl (List.mem_cons_of_mem _ z)) .inr), s.fr, s.kp, s.ex, s.ro, fun a h => s.dj a (List.mem_cons_of_mem _ h), (List.nodup_cons.mp s.nd).2, fun a h => s.off a (List.mem_cons_of_mem _ h)⟩
      unfold unT at ht
      split at ht
      · cases ht
        obtain ⟨p, rfl⟩ := p
        unfold unpD at ed
        split at ed
        · cases ed
          obtain ⟨a, vs, rfl, ha, hl⟩ := p
          obtain ⟨z1, z2⟩ := key hl.all3 s
          exact ⟨a, vs, rfl, .inl (.inl (r1.sub _ _ ha)), z2, z1⟩
        · cases ed
          obtain ⟨a, vs, rfl, ha, hl⟩ := p
          obtain ⟨z1, z2⟩ := key hl.all3 s
          exact ⟨a, vs, rfl, .inl (.inl (r1.sub _ _ ha)), z2, z1⟩
        · cases ed
      · cases ht
        rcases p with ⟨z, _⟩ | ⟨ds', a, vs, g, rfl, rfl, ha, hl, rfl⟩
        · unfold unpD at ed
          split at ed <;> first | (cases z; done) | cases ed
        · cases ed
          obtain ⟨z1, z2⟩ := key hl (dropP s)
          exact ⟨a, vs, rfl, .inl (.inl ha), z2, z1⟩
      · cases ht
        rcases p with ⟨z, _⟩ | ⟨ds', a, vs, g, rfl, rfl, ha, hl, rfl⟩
        · unfold unpD at ed
          split at ed <;> first | (cases z; done) | cases ed
        · cases ed
          obtain ⟨z1, z2⟩ := key hl (dropP s)
          exact ⟨a, vs, rfl, .inl (.inl ha), z2, z1⟩
      · cases ht
    · exact h.elim
  · exact h.elim
/-! ### dropped, handed back -/
theorem ex_semS {e : E} (h : tS K G W ret [] (mu e) (evS cl (.ex e)) En σ H) : tDrop (tE K G W ty (mu e) (evE cl e)) En σ H := by
  refine e_first (M2 := []) (by rw [List.append_nil]; exact h) (fun st k st1 e1 => by unfold evS; rw [e1]) (fun st e1 => by unfold evS; rw [e1]) fun st R F d st1 v R1 F1 H1 f r e1 h r1 p s q => ?_
  unfold evS at h
  rw [e1] at h
  exact h σ R1 F1 H1 r1 (fun _ _ => rfl) (s.drop.weak fun i hi => List.mem_append_left _ hi) fun j hj => q j fun z => hj (List.mem_append_left _ z)
theorem ret_semS {e : E} (hk : kept ret ty = true) (h : tS K G W ret [] (mu e) (evS cl (.ret e)) En σ H) : tRet (tE K G W ty (mu e) (evE cl e)) En σ H := by
  refine e_first (M2 := []) (by rw [List.append_nil]; exact h) (fun st k st1 e1 => by unfold evS; rw [e1]) (fun st e1 => by unfold evS; rw [e1]) fun st R F d st1 v R1 F1 H1 f r e1 h r1 p s q => ?_
  unfold evS at h
  rw [e1] at h
  exact h σ v R1 F1 H1 f r1 (fun _ _ => rfl) (kept_ok hk p) (s.weak fun i hi => List.mem_append_left _ hi)
theorem if_semS {e : E} {a b : Ss} (ht : sr ty = true) (h : tS K G W ret (A1 ++ A2) (mu e ++ (M1 ++ M2)) (evS cl (.ite e a b)) En σ H) : tIfS (tTest (tE K G W ty (mu e) (evE cl e))) (tS K G W ret A1 M1 (evSs cl a)) (tS K G W ret A2 M2 (evSs cl b)) En σ H := by
  refine e_first h (fun st k st1 e1 => by unfold evS; rw [e1]) (fun st e1 => by unfold evS; rw [e1]) fun st R F d st1 v R1 F1 H1 f r e1 h r1 p s q => ?_
  unfold evS at h
  rw [e1] at h
  cases d with
  | bl c =>
    have ev := bl_of p ht
    subst ev
    refine ⟨c, rfl, ?_⟩
    cases c with
    | true =>
      rw [if_pos rfl]
      simp only at h
      refine ⟨st1, R1, F1, r1, AftS.weak (fun i hi => List.mem_append_left _ hi) (fun i hi => List.mem_append_left _ hi) (aftS_out (A1 := []) (fun _ _ => rfl) s.drop q h)⟩
    | false =>
      rw [if_neg Bool.false_ne_true]
      simp only at h
      refine ⟨st1, R1, F1, r1, AftS.weak (fun i hi => List.mem_append_right _ hi) (fun i hi => List.mem_append_right _ hi) (aftS_out (A1 := []) (fun _ _ => rfl) s.drop q h)⟩
  | _ => exact h.elim
/-! ### loops -/
theorem for_semS {s : Src} {tg : List Nat} {un : Bool} {b : Ss} (hP : ∀ i ∈ P, i ∉ tg ++ muSs b) (hg : ∀ i ∈ tg, G i = .fz) (h : tS K G W ret (tg ++ asSs b) (muSrc s ++ (tg ++ muSs b)) (evS cl (.for_ tg un s b)) En σ H) :
    tFor (tI K G W P (muSrc s) (evSrc cl s)) (tgG K tg un) (tS K G W ret (asSs b) (muSs b) (evSs cl b)) En σ H := by
  obtain ⟨st, R, F, r, h⟩ := h
  refine ⟨st, R, F, r, ?_⟩
  unfold evS at h
  cases e1 : evSrc cl s st with
  | bad => rw [e1] at h; exact h
  | exc k st1 =>
    rw [e1] at h
    exact fun R1 F1 H1 r1 s1 q1 => h σ R1 F1 H1 r1 (fun _ _ => rfl) (s1.weak fun i hi => List.mem_append_left _ hi)
  | ok ds st1 =>
    rw [e1] at h
    simp only at h
    intro J R1 F1 H1 r1 wk s1 q1
    have h1 : AftS K G W ret (tg ++ asSs b) (tg ++ muSs b) σ R1 F1 H1 st1 En (forLoop (bindT tg un) (fun s => evSs cl b s) ds st1) := aftS_out (A1 := []) (σ' := σ) (fun _ _ => rfl) s1 q1 h
    clear h
    generalize hM : tg ++ muSs b = Mb at *
    generalize hA : tg ++ asSs b = Ab at *
    refine ⟨fun i m σ' H' => m = ds.length - i ∧ i ≤ ds.length ∧ ∃ stt R' F', Rel K G σ' stt R' H' F' ∧ Stp Mb R1 F1 H1 R' F' H' [] ∧ AftS K G W ret Ab Mb σ' R' F' H' stt En (forLoop (bindT tg un) (fun s => evSs cl b s) (ds.drop i) stt), ⟨_, rfl, Nat.zero_le _, st1, R1, F1, r1, (Stp.refl (M := [])).weak fun i hi => (by cases hi), by rw [List.drop_zero]; exact h1⟩, ?_⟩
    rintro i m σ' H' ⟨rfl, hi, stt, R', F', rr, ss, ha⟩
    by_cases hlt : i < ds.length
    · have hd : ds[i]? = some ds[i] := List.getElem?_eq_getElem hlt
      have hdrop : ds.drop i = ds[i] :: ds.drop (i + 1) := List.drop_eq_getElem_cons hlt
      obtain ⟨go, yl⟩ := wk.go ss hP rr.sub hd
      refine .inr ⟨go, fun σ'' H'' => (ds.length - (i + 1) = ds.length - (i + 1) ∧ i + 1 ≤ ds.length ∧ ∃ stt R' F', Rel K G σ'' stt R' H'' F' ∧ Stp Mb R1 F1 H1 R' F' H'' [] ∧ AftS K G W ret Ab Mb σ'' R' F' H'' stt En (forLoop (bindT tg un) (fun s => evSs cl b s) (ds.drop (i + 1)) stt)), fun σ'' H'' hh => ⟨_, by omega, hh⟩, fun x H2 yy => ?_⟩
      obtain ⟨R2, z1, z2, z3, z4, z5⟩ := yl x H2 yy
      have rr2 := rr.grow z1 z2 z3 z4
      have s0 : Stp [] R' F' H' R' F' H' [] := Stp.refl
      have s12 : Stp [] R' F' H' R2 F' H2 [] := s0.grow (fun a ha => (by cases ha)) z1 z2 z4
      have ss2 : Stp Mb R1 F1 H1 R2 F' H2 [] := ss.grow (fun a ha => (by cases ha)) z1 z2 z4
      rw [hdrop] at ha
      unfold forLoop at ha
      split at ha
      · exact ha.elim
      · rename_i sta eb
        refine bindT_ok rr2 hg z5 eb fun σ2 rs ls es => ?_
        have ha2 : AftS K G W ret (asSs b ++ Ab) (muSs b ++ Mb) σ2 R2 F' H2 sta En (match evSs cl b sta with | .nx st2 => forLoop (bindT tg un) (fun s => evSs cl b s) (ds.drop (i + 1)) st2 | r => r) := by
          refine AftS.weak (A2 := Ab) (M2 := Mb) (fun j hj => (List.mem_append.mp hj).elim (fun z => by rw [← hA]; exact List.mem_append_right _ z) id) (fun j hj => (List.mem_append.mp hj).elim (fun z => by rw [← hM]; exact List.mem_append_right _ z) id) ?_
          refine aftS_out (A1 := tg) (M1 := tg) (fun j hj => (es j hj).1) (s12.weak fun j hj => (by cases hj)) (fun j hj => (es j hj).2) (AftS.weak ?_ ?_ ha)
          · exact fun j hj => (List.mem_append.mp hj).elim (fun z => by rw [← hA]; exact List.mem_append_left _ z) id
          · exact fun j hj => (List.mem_append.mp hj).elim (fun z => by rw [← hM]; exact List.mem_append_left _ z) id
        refine ⟨sta, R2, F', rs, ?_⟩
        cases e2 : evSs cl b sta with
        | bad => rw [e2] at ha2; exact ha2
        | nx st3 =>
          rw [e2] at ha2
          simp only at ha2
          intro σ3 R3 F3 H3 r3 z3' s3 q3
          refine ⟨rfl, hlt, st3, R3, F3, r3, (ss2.trans s3).weak fun j hj => (List.mem_append.mp hj).elim id fun z => by rw [← hM]; exact List.mem_append_right _ z, ?_⟩
          exact aftS_out z3' s3 q3 ha2
        | rt d st3 =>
          rw [e2] at ha2
          exact AftS.weak (En := { En with nx := _, ct := _, bk := _ }) (fun j hj => List.mem_append_left _ hj) (fun j hj => List.mem_append_left _ hj) (show AftS K G W ret (asSs b ++ Ab) (muSs b ++ Mb) σ2 R2 F' H2 sta { En with nx := _, ct := _, bk := _ } (.rt d st3) from ha2)
        | ex c st3 =>
          rw [e2] at ha2
          exact AftS.weak (En := { En with nx := _, ct := _, bk := _ }) (fun j hj => List.mem_append_left _ hj) (fun j hj => List.mem_append_left _ hj) (show AftS K G W ret (asSs b ++ Ab) (muSs b ++ Mb) σ2 R2 F' H2 sta { En with nx := _, ct := _, bk := _ } (.ex c st3) from ha2)
    · have ei : i = ds.length := by omega
      subst ei
      rw [List.drop_length] at ha
      exact .inl ⟨wk.stop ss hP rr.sub, ha σ' R' F' H' rr (fun _ _ => rfl) ((Stp.refl (M := [])).weak fun i hi => (by cases hi)) fun _ _ => rfl⟩
theorem while_semS {e : E} {n : Nat} {b : Ss} (ht : sr ty = true) (h : tS K G W ret (asSs b) (mu e ++ muSs b) (evS cl (.while_ n e b)) En σ H) :
    tWhile (tTest (tE K G W ty (mu e) (evE cl e))) (tS K G W ret (asSs b) (muSs b) (evSs cl b)) En σ H := by
  obtain ⟨st, R, F, r, h⟩ := h
  unfold evS at h
  generalize hM : mu e ++ muSs b = Mb at *
  refine ⟨fun m σ H => ∃ st R F, Rel K G σ st R H F ∧ AftS K G W ret (asSs b) Mb σ R F H st En (whileLoop (fun s => evE cl e s) (fun s => evSs cl b s) m st), ⟨n, st, R, F, r, h⟩, ?_⟩
  rintro m σ' H' ⟨stt, R', F', rr, ha⟩
  refine ⟨stt, R', F', rr, ?_⟩
  cases m with
  | zero => exact ha.elim
  | succ m =>
    unfold whileLoop at ha
    have inM : ∀ j ∈ mu e, j ∈ Mb := fun j hj => by rw [← hM]; exact List.mem_append_left _ hj
    have inM2 : ∀ j ∈ muSs b, j ∈ Mb := fun j hj => by rw [← hM]; exact List.mem_append_right _ hj
    split at ha
    · rename_i st1 e1
      rw [e1]
      intro v R1 F1 H1 f r1 p s q
      refine ⟨true, bl_of p ht, ?_⟩
      dsimp only
      rw [if_pos rfl]
      have ha2 : AftS K G W ret (asSs b ++ asSs b) (muSs b ++ Mb) σ' R1 F1 H1 st1 En (match evSs cl b st1 with | .nx st2 => whileLoop (fun s => evE cl e s) (fun s => evSs cl b s) m st2 | r => r) := by
        refine AftS.weak (A2 := asSs b) (M2 := Mb) (fun j hj => (List.mem_append.mp hj).elim id id) (fun j hj => (List.mem_append.mp hj).elim (inM2 j) id) ?_
        refine aftS_out (A1 := []) (M1 := mu e) (fun j hj => rfl) s.drop q (AftS.weak ?_ ?_ ha)
        · exact fun j hj => hj
        · exact fun j hj => (List.mem_append.mp hj).elim (inM j) id
      refine ⟨fun σ'' H'' => ∃ st R F, Rel K G σ'' st R H'' F ∧ AftS K G W ret (asSs b) Mb σ'' R F H'' st En (whileLoop (fun s => evE cl e s) (fun s => evSs cl b s) m st), fun σ'' H'' hh => ⟨m, Nat.lt_succ_self m, hh⟩, st1, R1, F1, r1, ?_⟩
      cases e2 : evSs cl b st1 with
      | bad => rw [e2] at ha2; exact ha2
      | nx st3 =>
        rw [e2] at ha2
        simp only at ha2
        intro σ3 R3 F3 H3 r3 z3' s3 q3
        exact ⟨st3, R3, F3, r3, aftS_out z3' s3 q3 ha2⟩
      | rt d st3 =>
        rw [e2] at ha2
        exact AftS.weak (En := { En with nx := _, ct := _, bk := _ }) (fun j hj => List.mem_append_left _ hj) (fun j hj => List.mem_append_left _ hj) (show AftS K G W ret (asSs b ++ asSs b) (muSs b ++ Mb) σ' R1 F1 H1 st1 { En with nx := _, ct := _, bk := _ } (.rt d st3) from ha2)
      | ex c st3 =>
        rw [e2] at ha2
        exact AftS.weak (En := { En with nx := _, ct := _, bk := _ }) (fun j hj => List.mem_append_left _ hj) (fun j hj => List.mem_append_left _ hj) (show AftS K G W ret (asSs b ++ asSs b) (muSs b ++ Mb) σ' R1 F1 H1 st1 { En with nx := _, ct := _, bk := _ } (.ex c st3) from ha2)
    · rename_i st1 e1
      rw [e1]
      intro v R1 F1 H1 f r1 p s q
      refine ⟨false, bl_of p ht, ?_⟩
      dsimp only
      rw [if_neg Bool.false_ne_true]
      exact ha σ' R1 F1 H1 r1 (fun _ _ => rfl) (s.drop.weak inM) fun j hj => q j fun z => hj (inM j z)
    · rename_i k st1 e1
      rw [e1]
      intro R1 F1 H1 r1 s q
      exact ha σ' R1 F1 H1 r1 (fun _ _ => rfl) (s.weak inM)
    · exact ha.elim
end
end Mini

/-! Mini, part 19: statements that write a list. -/
namespace Mini
open PySem (Expr Stmt Operator CmpOp UnaryOp BoolOp Const Pos Scope NameKind Addr)
open PySem PyProof.Rows
open L2
def rMop : Mop → V → List V → Hp → VK → Prop
  | .append => rAppend
  | .extend => rExtend
  | .clear => rClear
def mopT (c : O) : Mop → List Ty → Bool
  | .append, [t] => kept c t
  | .extend, [t] => fkL t && decide (c = .fz)
  | .clear, [] => true
  | _, _ => false
section
variable {K : PySem.W.Frag} {G : Nat → O} {W : WW} {ret : O} {σ σ' : L2.St} {st st' st1 : Sl} {R H R' H' R0 H0 R1 H1 R2 H2 : Hp} {F F' F0 F1 F2 : Nat → List Addr} {A A1 A2 M M1 M2 M3 P : List Nat} {f f1 f2 f3 g g' : List Addr} {ty t tk : Ty} {d : D} {v : V} {ds ds' : List D} {vs vs' : List V} {En : Ends} {cl : Nat → List D → CO} {c k : O} {p : Addr} {i : Nat}
theorem All3.setAt {Pr : D → V → List Addr → Prop} {y : D} {w : V} (h : All3 Pr ds vs g) (q : Pr y w f) : ∀ {j : Nat}, j < ds.length → ∃ gr, All3 Pr (ds.set j y) (vs.set j w) gr ∧ (∀ a ∈ gr, a ∈ g ∨ a ∈ f) ∧ (g.Nodup → f.Nodup → (∀ a ∈ f, a ∉ g) → gr.Nodup) := by
  induction h with
  | nil =>
    intro j e
    exact absurd e (Nat.not_lt_zero _)
  | @cons d v f0 ds vs g a b ih =>
    intro j e
    cases j with
    | zero =>
      refine ⟨f ++ g, .cons q b, fun a ha => ?_, fun n1 n2 n3 => ?_⟩
      · rcases List.mem_append.mp ha with z | z
        · exact .inr z
        · exact .inl (List.mem_append_right _ z)
      · exact List.nodup_append.mpr ⟨n2, (List.nodup_append.mp n1).2.1, fun a ha b hb e => n3 a ha (List.mem_append_right _ (e ▸ hb))⟩
    | succ j =>
      obtain ⟨gr, e1, e2, e3⟩ := ih (j := j) (by simpa using e)
      refine ⟨f0 ++ gr, .cons a e1, fun a ha => ?_, fun n1 n2 n3 => ?_⟩
      · rcases List.mem_append.mp ha with z | z
        · exact .inl (List.mem_append_left _ z)
        · rcases e2 a z with z | z
          · exact .inl (List.mem_append_right _ z)
          · exact .inr z
      · obtain ⟨m1, m2, m3⟩ := List.nodup_append.mp n1
        refine List.nodup_append.mpr ⟨m1, e3 m2 n2 fun a ha z => n3 a ha (List.mem_append_right _ z), fun a ha b hb e => ?_⟩
        subst e
        rcases e2 a hb with z | z
        · exact m3 a ha a z rfl
        · exact n3 a z (List.mem_append_left _ ha)
/-- the list in slot i -/
theorem Rel.own (r : Rel K G σ st R H F) (hG : G i = .lst c) (e : get st i = some (.lst ds)) : ∃ p vs g, σ[i]? = some (some (.ref p)) ∧ H p = some (.lst vs) ∧ All3 (RpO K R H c) ds vs g ∧ F i = p :: g ∧ p ∉ g ∧ g.Nodup := by
  obtain ⟨v, h1, h2⟩ := r.sl i _ e
  rw [hG] at h2
  rcases h2 with ⟨z, _⟩ | ⟨_, p, vs, g, e, rfl, hp, q, hF⟩
  · cases z
  · cases e
    have nd := r.nd i
    rw [hF] at nd
    obtain ⟨n1, n2⟩ := List.nodup_cons.mp nd
    exact ⟨p, vs, g, h1, hp, q, hF, n1, n2⟩
theorem smt_semS {m : Mop} {as : Es} {tys : List Ty} (hG : G i = .lst c) (ht : mopT c m tys = true) (h : tS K G W ret [] (muEs as ++ [i]) (evS cl (.smt m i as)) En σ H) :
    tVar i σ H fun x H1 => tyV K "list" x H1 ∧ tA K G W tys (muEs as) (evEs cl as) σ H1 fun vs H2 => rMop m x vs H2 fun _ H3 => En.nx σ H3 := by
  obtain ⟨st, R, F, r, h⟩ := h
  unfold evS at h
  cases e0 : get st i with
  | none => rw [e0] at h; exact h.elim
  | some d0 =>
    cases d0 with
    | lst xs0 =>
      obtain ⟨p, us0, g0, h1, hp0, q0, hF0, _, _⟩ := r.own hG e0
      refine ⟨.ref p, h1, .inl ⟨rfl, us0, .inl (.inl hp0)⟩, st, R, F, r, ?_⟩
      simp only [e0, isLst, if_true] at h
      cases e1 : evEs cl as st with
      | bad => simp only [e1] at h; exact h
      | exc k st1 =>
        simp only [e1] at h
        exact fun R1 F1 H1 r1 s1 q1 => h σ R1 F1 H1 r1 (fun _ _ => rfl) (s1.weak fun i hi => List.mem_append_left _ hi)
      | ok ds st1 =>
        simp only [e1] at h
        intro vs R1 F1 H1 f1 r1 p1 s1 q1
        split at h
        · rename_i xs eg
          obtain ⟨p', us, g, h2, hp, q, hF, np, nd⟩ := r1.own hG eg
          rw [h1] at h2
          cases h2
          have hpF : p ∈ F1 i := by rw [hF]; exact List.mem_cons_self
          have inF : ∀ a ∈ g, a ∈ F1 i := fun a ha => by rw [hF]; exact List.mem_cons_of_mem _ ha
          split at h
          · rename_i ys em
            -- the write
            have key : ∀ {us' : List V} {g' : List Addr}, All3 (RpO K R1 H1 c) ys us' g' → (∀ a ∈ g', a ∈ g ∨ a ∈ f1) → g'.Nodup → En.nx σ (upd H1 p (.lst us')) := fun {us' g'} a hm hn => by
              have npg : p ∉ g' := fun z => by
                rcases hm p z with z | z
                · exact np z
                · exact s1.dj p z i hpF
              refine h σ R1 (wF F1 i (p :: g')) _ (r1.wr hG h1 hpF a npg hn fun a ha => ?_) (fun _ _ => rfl) (Stp.wr r1 s1 hpF (fun a ha => (hm a ha).elim (fun z => .inl (inF a z)) .inr) (fun a ha => by cases ha) List.nodup_nil fun a ha => by cases ha) fun j hj => ?_
              · rcases hm a ha with z | z
                · exact .inl (inF a z)
                · exact .inr ⟨s1.dj a z, s1.off a z⟩
              · rw [List.mem_append, not_or, List.mem_singleton] at hj
                rw [get_put_ne hj.2, q1 j hj.1]
            show rMop m (.ref p) vs H1 fun _ H3 => En.nx σ H3
            cases m with
            | append =>
              cases p1 with
              | nil => cases ht
              | @cons t ts d ds v vs f0 f00 a b =>
                cases b with
                | cons _ _ => cases ht
                | nil =>
                  have ht' : kept c t = true := ht
                  simp only [mopD] at em
                  split at em
                  · rename_i hl
                    cases em
                    rw [List.append_nil] at key s1
                    refine ⟨p, us, v, rfl, rfl, hp, by rw [q.length]; exact Nat.lt_of_lt_of_le hl lim_le, ?_⟩
                    refine key (q.append (All3.one (kept_ok ht' a))) (fun a ha => List.mem_append.mp ha) (List.nodup_append.mpr ⟨nd, s1.nd, fun a ha b hb e => s1.dj b hb i (e ▸ inF a ha)⟩)
                  · cases em
            | extend =>
              cases p1 with
              | nil => cases ht
              | @cons t ts d ds v vs f0 f00 a b =>
                cases b with
                | cons _ _ => cases ht
                | nil =>
                  have ht' : (fkL t && decide (c = .fz)) = true := ht
                  rw [Bool.and_eq_true] at ht'
                  have hc := of_decide_eq_true ht'.2
                  subst hc
                  cases d with
                  | lst zs =>
                    simp only [mopD] at em
                    split at em
                    · rename_i hl
                      cases em
                      have fkt : fk t = true := by
                        have := ht'.1
                        unfold fkL at this
                        split at this <;> first | rfl | cases this
                      obtain ⟨b, us2, rfl, hb, hl2⟩ := fk_lst r1 fkt a
                      obtain ⟨l1, rfl⟩ := q.fz
                      refine ⟨p, b, us, us2, rfl, rfl, hp, hb, by rw [l1.length, hl2.length]; exact Nat.le_trans hl lim_le, ?_⟩
                      exact key (l1.append hl2).all3 (fun a ha => by cases ha) List.nodup_nil
                    · cases em
                  | _ => simp [mopD] at em
            | clear =>
              cases p1 with
              | cons _ _ => cases ht
              | nil =>
                simp only [mopD] at em
                cases em
                exact ⟨p, us, rfl, rfl, hp, key .nil (fun a ha => by cases ha) List.nodup_nil⟩
          · exact h.elim
        · exact h.elim
    | _ => rw [e0] at h; exact h.elim
theorem sidx_semS {kk e : E} (hG : G i = .lst c) (hk : kept c ty = true) (hs : sr tk = true) (hi : i ∉ mu kk) (h : tS K G W ret [] (mu e ++ (mu kk ++ [i])) (evS cl (.sidx i kk e)) En σ H) :
    tAsg (tE K G W ty (mu e) (evE cl e)) (gSub (tVar i) (tE K G W tk (mu kk) (evE cl kk)) rSetL) En σ H := by
  refine e_first h (fun st k st1 e1 => by unfold evS; rw [e1]) (fun st e1 => by unfold evS; rw [e1]) fun st R F d st1 v R1 F1 H1 f r e1 h r1 p s q => ?_
  unfold evS at h
  rw [e1] at h
  simp only at h
  show tVar i σ H1 fun o H2 => tE K G W tk (mu kk) (evE cl kk) σ H2 fun kv H3 => rSetL o kv v H3 fun H4 => En.nx σ H4
  split at h
  · rename_i hl
    cases e0 : get st1 i with
    | none => rw [e0] at hl; cases hl
    | some d0 =>
      rw [e0] at hl
      cases d0 with
      | lst xs0 =>
        obtain ⟨p0, us0, g0, h1, hp0, q0, hF0, _, _⟩ := r1.own hG e0
        refine ⟨.ref p0, h1, st1, R1, F1, r1, ?_⟩
        cases e2 : evE cl kk st1 with
        | bad => simp only [e2] at h; exact h
        | exc k st2 =>
          simp only [e2] at h
          exact fun R2 F2 H2 r2 s2 q2 => h σ R2 F2 H2 r2 (fun _ _ => rfl) ((s.drop.trans s2).weak fun j hj => by
            rw [List.mem_append] at hj
            rw [List.mem_append, List.mem_append]
            exact hj.elim .inl fun z => .inr (.inl z))
        | ok kd st2 =>
          rw [e2] at h
          intro kv R2 F2 H2 f2 r2 p2 s2 q2
          cases kd with
          | int k =>
            simp only at h
            have ek := int_of p2 hs
            subst ek
            split at h
            · rename_i xs eg
              obtain ⟨p', us, g, h2, hp, qa, hF, np, nd⟩ := r2.own hG eg
              rw [h1] at h2
              cases h2
              split at h
              · rename_i j ej
                have all : Stp (mu e ++ mu kk) R F H R2 F2 H2 f := by
                  have := Stp.cat r1 s p.dom s2.drop
                  rw [List.append_nil] at this
                  exact this
                have pk : pkOut ty (mu kk) = true := by
                  unfold kept at hk
                  split at hk <;> first | rfl | cases hk
                have pd := kept_ok hk (RpT.step r1 p s.dj s2 pk)
                obtain ⟨_, hj2, _, _⟩ := ixN_seq ej
                obtain ⟨gr, a1, a2, a3⟩ := qa.setAt pd hj2
                have hpF : p0 ∈ F2 i := by rw [hF]; exact List.mem_cons_self
                have inF : ∀ a ∈ g, a ∈ F2 i := fun a ha => by rw [hF]; exact List.mem_cons_of_mem _ ha
                have npg : p0 ∉ gr := fun z => by
                  rcases a2 p0 z with z | z
                  · exact np z
                  · exact all.dj p0 z i hpF
                have hn : gr.Nodup := a3 nd all.nd fun a ha z => all.dj a ha i (inF a z)
                refine ⟨p0, us, k, j, rfl, rfl, hp, by rw [qa.length]; exact ej, ?_⟩
                refine h σ R2 (wF F2 i (p0 :: gr)) _ (r2.wr hG h1 hpF a1 npg hn fun a ha => ?_) (fun _ _ => rfl) ((Stp.wr r2 all hpF (fun a ha => (a2 a ha).elim (fun z => .inl (inF a z)) .inr) (fun a ha => by cases ha) List.nodup_nil fun a ha => by cases ha).weak fun l hl => ?_) fun l hl => ?_
                · rcases a2 a ha with z | z
                  · exact .inl (inF a z)
                  · exact .inr ⟨all.dj a z, all.off a z⟩
                · rw [List.append_assoc] at hl
                  exact hl
                · rw [List.mem_append, List.mem_append, not_or, not_or, List.mem_singleton] at hl
                  rw [get_put_ne hl.2.2, q2 l hl.2.1, q l hl.1]
              · exact h.elim
            · exact h.elim
          | _ => exact h.elim
      | _ => cases hl
  · exact h.elim
end
end Mini

/-! Mini, part 20: what the look says holds: statements. -/
namespace Mini
open PySem (Expr Stmt Operator CmpOp UnaryOp BoolOp Const Pos Scope NameKind Addr)
open PySem PyProof.Rows
open L2
def isLc : Expr → Bool
  | .ListComp _ _ _ _ => true
  | .SetComp _ _ _ _ => true
  | .DictComp _ _ _ _ _ => true
  | _ => false
def isTupX : Expr → Bool
  | .Tuple _ _ _ => true
  | _ => false
/-- a store whose comprehension is stored from within, or behind it -/
def swT (sc : Scope) (y : PySem.Str) (py : Pos) : Expr → Bool
  | .ListComp _ _ scope pos => decide (sc.names.lookup y = some .local) && ((py.line == pos.line) && !(scope.names.any fun (n, k) => n == y && (k == .local || k == .cell)))
  | _ => false
def swF (sc : Scope) (y : PySem.Str) : Expr → Bool
  | .ListComp _ _ _ _ => !decide (sc.names.lookup y = some .local)
  | x => !isLc x
def tgsO (C : SC) (sc : Scope) (c : O) : List Nat → List Expr → Bool
  | [], [] => true
  | i :: is, .Name x _ :: es => sets C sc i x && (decide (C.g i = c) && tgsO C sc c is es)
  | _, _ => false
def mopName : Mop → PySem.Str
  | .append => "append"
  | .extend => "extend"
  | .clear => "clear"
mutual
def ckS (C : SC) (sc : Scope) : S → Stmt → Bool
  | .set i e, s => (match s with
    | .Assign [.Name y py] x _ => sets C sc i y && ((swT sc y py x || swF sc y x) && (match ckE C sc e x with
      | some ty => kept (C.g i) ty
      | none => false))
    | _ => false)
  | .unp l is e, s => (match s with
    | .Assign [.Tuple es _ _] x _ => !isTupX x && (match ckE C sc e x with
      | some ty => (match unT l ty with
        | some c => tgsO C sc c is es
        | none => false)
      | none => false)
    | _ => false)
  | .sidx i k e, s => (match s with
    | .Assign [.Subscript (.Name y _) kx _] x _ => (match C.g i, ckE C sc e x, ckE C sc k kx with
      | .lst c, some ty, some tk => sees C sc i y && (kept c ty && (sr tk && !(mu k).contains i))
      | _, _, _ => false)
    | _ => false)
  | .smt m i as, s => (match s with
    | .Expr (.Call (.Attribute (.Name y _) x ap) args [] cp) _ => (match C.g i, ckEs C sc as args with
      | .lst c, some tys => sees C sc i y && (x == mopName m && (lineOk ap cp && (mopT c m tys && decide (args.length < 2))))
      | _, _ => false)
    | _ => false)
  | .ex e, s => (match s with
    | .Expr x _ => !isLc x && (ckE C sc e x).isSome
    | _ => false)
  | .ret e, s => (match s with
    | .Return (some x) _ => (match ckE C sc e x with
      | some ty => kept C.ret ty
      | none => false)
    | _ => false)
  | .ite c a b, s => (match s with
    | .If x ss ts _ => (match ckE C sc c x with
      | some ty => sr ty && (tstE c && (ckSs C sc a ss && ckSs C sc b ts))
      | none => false)
    | _ => false)
  | .for_ tg un src b, s => (match s with
    | .For t it ss [] _ => (match ckSrc C sc un src it with
      | some P => tgOk C sc tg un t && (P.all (fun i => !(tg ++ muSs b).contains i) && ckSs C sc b ss)
      | none => false)
    | _ => false)
  | .while_ _ c b, s => (match s with
    | .While x ss [] _ => (match ckE C sc c x with
      | some ty => sr ty && (tstE c && ckSs C sc b ss)
      | none => false)
    | _ => false)
  | .pass, s => (match s with
    | .Pass _ => true
    | _ => false)
def ckSs (C : SC) (sc : Scope) : Ss → List Stmt → Bool
  | .nil, l => (match l with
    | [] => true
    | _ => false)
  | .cons a as, l => (match l with
    | s :: ss => ckS C sc a s && ckSs C sc as ss
    | [] => false)
end
/-- the parts of a comprehension -/
def LcP (X : Cx) (elt t it : Expr) (ifs : List Expr) (scope : Scope) (tm : TE) : Prop :=
  ∃ (own : List (PySem.Str × Nat)) (wi : TI) (g : TG) (tt : TT) (te : TE), PI X t it wi ∧ BlkOk X.N X.env.scope scope own ∧ (∀ (s : Shared) (H : Hp) (Cc : Addr) (cl : List (PySem.Str × Addr)) (fp : List Addr), PG (X.blk s H scope (compEnvC scope cl Cc X.env) fp) t g) ∧
    (∀ (s : Shared) (H : Hp) (Cc : Addr) (cl : List (PySem.Str × Addr)) (fp : List Addr), PTs (X.blk s H scope (compEnvC scope cl Cc X.env) fp) ifs tt) ∧
    (∀ (s : Shared) (H : Hp) (Cc : Addr) (cl : List (PySem.Str × Addr)) (fp : List Addr), PE (X.blk s H scope (compEnvC scope cl Cc X.env) fp) elt te) ∧ (∀ v, foldedSetIterable it X.env v = pure v) ∧
    ∀ σ H Q, tm σ H Q → tLc wi g tt te (own.map (·.2)) σ H Q
section
variable {X : Cx} {k : Nat} {C : SC} {sc : Scope} {cl : Nat → List D → CO} {cls : Nat → Value} {W : WW}
theorem shp_lc {o : Op} {elt : Expr} {gs : List Comprehension} {scope : Scope} {pos : Pos} : shp C sc o (.ListComp elt gs scope pos) = none := by
  unfold shp
  split <;> first | rfl | (rename_i h; cases h)
theorem lc_of_ck (O : XOk k C sc X) (fo : FnsOk k C cl cls X) (hx : PasX cls W X) {elt : Expr} {gs : List Comprehension} {scope : Scope} {pos : Pos} : ∀ {e : E} {ty : Ty}, ckE C sc e (.ListComp elt gs scope pos) = some ty →
    ∃ t it ifs, gs = [⟨t, it, ifs, 0⟩] ∧ LcP X elt t it ifs scope (tE X.K C.g W ty (mu e) (evE cl e))
  | .cst d, ty, h => by
    simp only [ckE] at h
    split at h
    · rename_i hc
      cases d <;> simp [isCst] at hc
    · cases h
  | .glb _ _, ty, h => by simp [ckE] at h
  | .var _, ty, h => by simp [ckE] at h
  | .sv _, ty, h => by simp [ckE] at h
  | .mv _, ty, h => by simp [ckE] at h
  | .rf _, ty, h => by simp [ckE] at h
  | .frz a, ty, h => by
    simp only [ckE] at h
    have em : mu (.frz a) = mu a := by simp only [mu]
    have ee : evE cl (.frz a) = evE cl a := by funext st; conv => lhs; unfold evE
    rw [em, ee]
    split at h
    · rename_i o e1
      cases h
      obtain ⟨t, it, ifs, rfl, own, wi, g, tt, te, a1, a2, a3, a4, a5, a6, a7⟩ := lc_of_ck O fo hx e1
      exact ⟨t, it, ifs, rfl, own, wi, g, tt, te, a1, a2, a3, a4, a5, a6, fun σ H Q w => a7 σ H Q (frz_sem w)⟩
    · rename_i e1
      cases h
      exact lc_of_ck O fo hx e1
    · cases h
  | .op o as, ty, h => by
    simp only [ckE, shp_lc] at h
    cases h
  | .and_ _ _, ty, h => by simp [ckE] at h
  | .or_ _ _, ty, h => by simp [ckE] at h
  | .ite _ _ _, ty, h => by simp [ckE] at h
  | .ch _ _ _ _ _, ty, h => by simp [ckE] at h
  | .call _ _, ty, h => by simp [ckE] at h
  | .pop _ _, ty, h => by simp [ckE] at h
  | .bm _ _ _, ty, h => by simp [ckE] at h
  | .comp kk tg un s c e, ty, h => by
    simp only [ckE] at h
    split at h
    · rename_i elt' t it ifs scope' pos' hh
      injection hh with h1 h2 h3 h4
      subst h1 h2 h3 h4
      refine ⟨t, it, ifs, rfl, ?_⟩
      split at h
      · rename_i hk
        simp only [Bool.and_eq_true] at hk
        obtain ⟨k1, k2, k3⟩ := hk
        have k2 := of_decide_eq_true k2
        split at h
        · rename_i P tc tye e1 e2 e3
          split at h
          · rename_i hq
            cases h
            simp only [Bool.and_eq_true] at hq
            obtain ⟨q1, q2, q3⟩ := hq
            have ow := own_eq k2
            have hs := sSrc s O fo hx e1
            have nd : X.N.Nodup := by rw [O.N]; exact O.nd
            have ok : BlkOk X.N X.env.scope scope (tg.filterMap fun i => (C.N[i]?).map fun x => (x, i)) := by
              rw [O.N, O.scope]
              exact blkOk_by k1
            have fob : ∀ s H Cc cll fp, FnsOk k C cl cls (X.blk s H scope (compEnvC scope cll Cc X.env) fp) := fun s H Cc cll fp => ⟨fo.fn, fo.wf⟩
            have hxb : ∀ s H Cc cll fp, PasX cls WF (X.blk s H scope (compEnvC scope cll Cc X.env) fp) := fun s H Cc cll fp σ pins Hh s1 e s2 I z => by
              obtain ⟨_, _, _, _, _, _, _, _, _, _, _, _, c, _, _, w⟩ := z
              exact w.elim
            have hL : ∀ s H Cc cll fp, ∀ x, Loc scope x → Loc (X.blk s H scope (compEnvC scope cll Cc X.env) fp).env.scope x ∧ ((X.blk s H scope (compEnvC scope cll Cc X.env) fp).fn x = true ∨ (X.blk s H scope (compEnvC scope cll Cc X.env) fp).env.scope.names.lookup x = some .local) := fun s H Cc cll fp x hl => by
              rcases hl with hl | hl
              · have z : (relS scope X.env.scope).names.lookup x = some .local := lookup_relS_keep (by decide) hl
                exact ⟨.inl z, .inr z⟩
              · have z : (relS scope X.env.scope).names.lookup x = some .cell := lookup_relS_keep (by decide) hl
                refine ⟨.inr z, .inl ?_⟩
                show (scope.names.lookup x == some .cell) = true
                rw [hl]
                rfl
            have pg0 := fun s H Cc cll fp => pg_ok (X := X.blk s H scope (compEnvC scope cll Cc X.env) fp) O.calm nd O.N (hL s H Cc cll fp) k3
            have srt : sr tc = true := by
              cases c with
              | none =>
                simp only [ckC] at e2
                split at e2
                · cases e2; rfl
                · cases e2
              | some a =>
                simp only [ckC] at e2
                split at e2
                · split at e2
                  · split at e2
                    · rename_i hh
                      cases e2
                      rw [Bool.and_eq_true] at hh
                      exact hh.1
                    · cases e2
                  · cases e2
                · cases e2
            refine ⟨_, _, tgG X.K tg un, tTs X.K C.g WF cl tc c, tE X.K C.g WF tye (mu e) (evE cl e), hs.1 t k3, ok, fun s H Cc cll fp => (pg0 s H Cc cll fp).1, fun s1 H Cc cll fp => sC c (O.blk s1 H Cc cll fp) (fob s1 H Cc cll fp) (hxb s1 H Cc cll fp) e2,
              fun s1 H Cc cll fp => (sE e (O.blk s1 H Cc cll fp) (fob s1 H Cc cll fp) (hxb s1 H Cc cll fp) e3).pe, hs.2, fun σ H Q w => ?_⟩
            rw [ow]
            simp only [mu] at w
            exact comp_sem (K := X.K) q1 (ix_any (X := X) q2) (ix_any (X := X) q3) (tgOk_fz k3) srt w
          · cases h
        · cases h
      · cases h
    · cases h
theorem sw_f {y : PySem.Str} {py : Pos} {x : Expr} {l : Nat} {env : Env} (hs : env.scope = sc) (h : swF sc y x = true) : swapsWith x (some (.Name y py)) l env = pure false := by
  cases x with
  | ListComp elt gs scope pos =>
    have h' : (!decide (sc.names.lookup y = some .local)) = true := h
    have ne : sc.names.lookup y ≠ some .local := by simpa using h'
    have ky : (env.kindOf y == some .local) = false := by
      unfold Env.kindOf
      rw [hs]
      simpa using ne
    unfold swapsWith
    simp only [ky]
    simp
  | SetComp _ _ _ _ => cases h
  | DictComp _ _ _ _ _ => cases h
  | _ => rfl
theorem sw_tup {es : List Expr} {kk : Nat} {py : Pos} {x : Expr} {l : Nat} {env : Env} : swapsWith x (some (.Tuple es kk py)) l env = pure false := by
  cases x <;> rfl
theorem sw_sub {a b : Expr} {py : Pos} {x : Expr} {l : Nat} {env : Env} : swapsWith x (some (.Subscript a b py)) l env = pure false := by
  cases x <;> rfl
theorem sw_none {x : Expr} {l : Nat} {env : Env} (h : isLc x = false) : swapsWith x none l env = pure false := by
  cases x <;> first | rfl | cases h
theorem ss_tup {es : List Expr} {kk : Nat} {py : Pos} {x : Expr} {env : Env} (h : isTupX x = false) : swappedStores [.Tuple es kk py] x env = pure none := by
  cases x <;> first | rfl | cases h
theorem ss_sub {a b : Expr} {py : Pos} {x : Expr} {env : Env} : swappedStores [.Subscript a b py] x env = pure none := by
  cases x <;> rfl
theorem pgsO_ok {c : O} (nd : X.N.Nodup) (hN : X.N = C.N) (hL : ∀ x, Loc sc x → Loc X.env.scope x ∧ (X.fn x = true ∨ X.env.scope.names.lookup x = some .local)) : ∀ {is : List Nat} {es : List Expr}, tgsO C sc c is es = true →
    PGs X es (gsN is) ∧ (assignEach es X.env).length = is.length ∧ (assignEach es X.env).findIdx? (·.1) = none ∧ ∀ i ∈ is, C.g i = c
  | [], [], _ => ⟨pgs_nil, rfl, rfl, fun _ h => nomatch h⟩
  | i :: is, .Name x p :: es, h => by
    have h' : (sets C sc i x && (decide (C.g i = c) && tgsO C sc c is es)) = true := h
    simp only [Bool.and_eq_true] at h'
    obtain ⟨h1, h2, h3⟩ := h'
    obtain ⟨a, b⟩ := sets_ok h1
    obtain ⟨c1, c2, c3, c4⟩ := pgsO_ok nd hN hL h3
    refine ⟨pgs_cons (pg_name nd (by rw [hN]; exact a) (hL x b).1 (hL x b).2) c1, ?_, ?_, fun j hj => ?_⟩
    · show (assignEach es X.env).length + 1 = is.length + 1
      rw [c2]
    · show (((false, assign (.Name x p) X.env) :: assignEach es X.env).findIdx? (·.1)) = none
      rw [List.findIdx?_cons]
      simp [c3]
    · rcases List.mem_cons.mp hj with rfl | hj
      · exact of_decide_eq_true h2
      · exact c4 j hj
  | [], _ :: _, h => by cases h
  | _ :: _, [], h => by cases h
theorem pgUn {l : Bool} {es : List Expr} {kk n : Nat} {pos : Pos} {t : TGs} (hc : X.calm = true) (h : PGs X es t) (hn : (assignEach es X.env).length = n) (hst : (assignEach es X.env).findIdx? (·.1) = none) : PG X (.Tuple es kk pos) (gUn X.K l n t) := by
  cases l with
  | false => exact pg_tup hc h hn hst
  | true => exact pg_lst hc h hn hst
theorem sub_ha {o i : Expr} {pos : Pos} {env : Env} (h : pln i = true) : ∀ v, assign (.Subscript o i pos) env v = (do
      let ov ← holding [v] (eval o env)
      let iv ← holding [v, ov] (eval i env)
      standAt pos
      holding [v, ov, iv] (setItem ov iv v)
      release [v, ov, iv] []) := by
  intro v
  cases i <;> first | rfl | exact absurd h Bool.false_ne_true
theorem ckEs_len : ∀ {as : Es} {es : List Expr} {tys : List Ty}, ckEs C sc as es = some tys → tys.length = es.length
  | .nil, es, tys, h => by
    simp only [ckEs] at h
    split at h
    · cases h
      rfl
    · cases h
  | .cons a as, es, tys, h => by
    simp only [ckEs] at h
    split at h
    · split at h
      · rename_i e2
        split at h
        · cases h
          rw [List.length_cons, List.length_cons, ckEs_len e2]
        · cases h
      · cases h
    · cases h
theorem fnk (O : XOk k C sc X) (h : sc.kind = .function) : X.env.scope.kind = .function := by rw [O.scope]; exact h
end
mutual
theorem sS {X : Cx} {k : Nat} {C : SC} {sc : Scope} {cl : Nat → List D → CO} {cls : Nat → Value} {W : WW} (O : XOk k C sc X) (fo : FnsOk k C cl cls X) (hx : PasX cls W X) (hp : PassesOwn (model X.prog X.w) X.A X.env X.xe) (hf : ∀ x, X.fn x = true) (hk : sc.kind = .function) :
    ∀ (s : S) {x : Stmt}, ckS C sc s x = true → PS X x (tS X.K C.g W C.ret (asS s) (muS s) (evS cl s))
  | .set i e, x, h => by
    have nd : X.N.Nodup := by rw [O.N]; exact O.nd
    simp only [ckS] at h
    split at h
    · rename_i y py x pos
      simp only [Bool.and_eq_true] at h
      obtain ⟨h1, h2, h3⟩ := h
      obtain ⟨a, b⟩ := sets_ok h1
      split at h3
      · rename_i ty e1
        have hN : X.N[i]? = some y := by rw [O.N]; exact a
        simp only [asS, muS]
        rw [Bool.or_eq_true] at h2
        by_cases hs : swF sc y x = true
        · exact PS.imp (ps_set nd hN (by rw [O.scope]; exact b) (sE e O fo hx e1).pe (sw_f O.scope hs) (.inl (hf y))) fun Dn σ H w => set_semS h3 w
        · have h2 := h2.resolve_right hs
          cases x with
          | ListComp elt gs scope lpos =>
            have h2' : (decide (sc.names.lookup y = some .local) && ((py.line == lpos.line) && !(scope.names.any fun (n, k) => n == y && (k == .local || k == .cell)))) = true := h2
            simp only [Bool.and_eq_true, Bool.not_eq_true'] at h2'
            obtain ⟨g1, g2, g3⟩ := h2'
            have g1 := of_decide_eq_true g1
            obtain ⟨t, it, ifs, rfl, own, wi, g, tt, te, a1, a2, a3, a4, a5, a6, a7⟩ := lc_of_ck O fo hx e1
            have yl : X.env.scope.names.lookup y = some .local := by rw [O.scope]; exact g1
            refine PS.imp (ps_setLc O.calm nd hN yl (sw_true (fnk O hk) yl g2 g3) a1 a2 a3 a4 a5 a6) fun Dn σ H w => ?_
            exact a7 σ H _ (set_semS h3 w)
          | _ => cases h2
      · cases h3
    · cases h
  | .unp l is e, x, h => by
    have nd : X.N.Nodup := by rw [O.N]; exact O.nd
    simp only [ckS] at h
    split at h
    · rename_i es kk tp x pos
      simp only [Bool.and_eq_true, Bool.not_eq_true'] at h
      obtain ⟨h1, h2⟩ := h
      split at h2
      · rename_i ty e1
        split at h2
        · rename_i c ec
          obtain ⟨p1, p2, p3, p4⟩ := pgsO_ok (X := X) nd O.N (fun x hl => ⟨by rw [O.scope]; exact hl, .inl (hf x)⟩) h2
          simp only [asS, muS]
          exact PS.imp (ps_asg (sE e O fo hx e1).pe (pgUn (l := l) O.calm p1 p2 p3) (sw_tup (es := es) (kk := kk) (py := tp) (x := x) (l := pos.line) (env := X.env)) (ss_tup h1) rfl) fun Dn σ H w => unp_semS ec p4 w
        · cases h2
      · cases h2
    · cases h
  | .sidx i kk e, x, h => by
    have nd : X.N.Nodup := by rw [O.N]; exact O.nd
    simp only [ckS] at h
    split at h
    · rename_i y p0 kx tp x pos
      split at h
      · rename_i c ty tk eg e1 e2
        simp only [Bool.and_eq_true, Bool.not_eq_true'] at h
        obtain ⟨h1, h2, h3, h4⟩ := h
        have hi : i ∉ mu kk := fun z => by
          rw [List.contains_iff_mem.mpr z] at h4
          cases h4
        have hkx := sE kk O fo hx e2
        simp only [asS, muS]
        refine PS.imp (ps_asg (sE e O fo hx e1).pe (pg_sub (sees_ok (p := p0) O h1) hkx.pe set_list (sub_ha hkx.pl)) (sw_sub (a := .Name y p0) (b := kx) (py := tp) (x := x) (l := pos.line) (env := X.env)) ss_sub rfl) fun Dn σ H w => sidx_semS eg h2 h3 hi w
      · cases h
    · cases h
  | .smt m i as, x, h => by
    simp only [ckS] at h
    split at h
    · rename_i y p0 x ap args cp pos
      split at h
      · rename_i c tys eg e1
        simp only [Bool.and_eq_true, beq_iff_eq] at h
        obtain ⟨h1, rfl, h3, h4, h5⟩ := h
        obtain ⟨ts, L, cc, pl, rr⟩ := sEs as O fo hx e1
        simp only [asS, muS]
        have sem : ∀ Dn σ H, tS X.K C.g W C.ret [] (muEs as ++ [i]) (evS cl (.smt m i as)) Dn σ H → tVar i σ H fun x H1 => tyV X.K "list" x H1 ∧ chn ts σ H1 fun vs H2 => rMop m x vs H2 fun _ H3 => Dn.nx σ H3 := fun Dn σ H w => by
          obtain ⟨v, e, ty, q⟩ := smt_semS eg h4 w
          exact ⟨v, e, ty, cc σ _ _ q⟩
        cases args with
        | nil =>
          cases L
          cases m with
          | clear =>
            refine PS.imp (ps_expr (pe_bm0 (cpos := cp) (apos := ap) (name := "clear") (T := "list") (id := "list.clear") PySem.F.plainAttrs_list PySem.F.slot_list_clear PySem.F.type_list_clear mt_clear (sees_ok (p := p0) O h1) rfl h3) rfl) fun Dn σ H w => ?_
            exact sem Dn σ H w
          | append =>
            have := ckEs_len e1
            cases tys with
            | nil => cases h4
            | cons _ _ => cases this
          | extend =>
            have := ckEs_len e1
            cases tys with
            | nil => cases h4
            | cons _ _ => cases this
        | cons b bs =>
          cases bs with
          | nil =>
            have st : starEach [b] X.env = (false, eval b X.env) :: starEach [] X.env := star_cons (L.nst b List.mem_cons_self)
            cases m with
            | append =>
              refine PS.imp (ps_expr (pe_bm (cpos := cp) (apos := ap) (name := "append") (T := "list") (id := "list.append") PySem.F.plainAttrs_list PySem.F.slot_list_append PySem.F.type_list_append mt_append (sees_ok (p := p0) O h1) L.pa rfl (by rw [st]; rfl) h3 st rfl) rfl) fun Dn σ H w => ?_
              exact sem Dn σ H w
            | extend =>
              refine PS.imp (ps_expr (pe_bm (cpos := cp) (apos := ap) (name := "extend") (T := "list") (id := "list.extend") PySem.F.plainAttrs_list PySem.F.slot_list_extend PySem.F.type_list_extend mt_extend (sees_ok (p := p0) O h1) L.pa rfl (by rw [st]; rfl) h3 st rfl) rfl) fun Dn σ H w => ?_
              exact sem Dn σ H w
            | clear =>
              have := ckEs_len e1
              cases tys with
              | nil => cases this
              | cons _ _ => cases h4
          | cons b2 bs =>
            have := of_decide_eq_true h5
            simp at this
            omega
      · cases h
    · cases h
  | .ex e, x, h => by
    simp only [ckS] at h
    split at h
    · simp only [Bool.and_eq_true, Bool.not_eq_true'] at h
      obtain ⟨ty, e1⟩ := Option.isSome_iff_exists.mp h.2
      simp only [asS, muS]
      exact PS.imp (ps_expr (sE e O fo hx e1).pe (sw_none h.1)) fun Dn σ H w => ex_semS w
    · cases h
  | .ret e, x, h => by
    simp only [ckS] at h
    split at h
    · split at h
      · rename_i ty e1
        simp only [asS, muS]
        exact PS.imp (ps_ret (sE e O fo hx e1).pe) fun Dn σ H w => ret_semS h w
      · cases h
    · cases h
  | .ite c a b, x, h => by
    simp only [ckS] at h
    split at h
    · split at h
      · rename_i ty e1
        simp only [Bool.and_eq_true] at h
        obtain ⟨h1, h2, h3, h4⟩ := h
        simp only [asS, muS]
        exact PS.imp (ps_if ((sE c O fo hx e1).pt h2) (sSs O fo hx hp hf hk a h3) (sSs O fo hx hp hf hk b h4)) fun Dn σ H w => if_semS h1 w
      · cases h
    · cases h
  | .for_ tg un src b, x, h => by
    have nd : X.N.Nodup := by rw [O.N]; exact O.nd
    simp only [ckS] at h
    split at h
    · split at h
      · rename_i P e1
        simp only [Bool.and_eq_true] at h
        obtain ⟨h1, h2, h3⟩ := h
        have hs := sSrc src O fo hx e1
        simp only [asS, muS]
        exact PS.imp (ps_for hp O.calm (hs.1 _ h1) (pg_ok O.calm nd O.N (fun x hl => ⟨by rw [O.scope]; exact hl, .inl (hf x)⟩) h1).1 (sSs O fo hx hp hf hk b h3) hs.2) fun Dn σ H w => for_semS (ix_any (X := X) h2) (tgOk_fz h1) w
      · cases h
    · cases h
  | .while_ n c b, x, h => by
    simp only [ckS] at h
    split at h
    · split at h
      · rename_i ty e1
        simp only [Bool.and_eq_true] at h
        obtain ⟨h1, h2, h3⟩ := h
        simp only [asS, muS]
        exact PS.imp (ps_while hp ((sE c O fo hx e1).pt h2) (sSs O fo hx hp hf hk b h3)) fun Dn σ H w => while_semS h1 w
      · cases h
    · cases h
  | .pass, x, h => by
    simp only [ckS] at h
    split at h
    · refine PS.imp ps_pass fun Dn σ H w => ?_
      obtain ⟨st, R, F, r, w⟩ := w
      unfold evS at w
      exact w σ R F H r (fun _ _ => rfl) ((Stp.refl (M := [])).weak fun i hi => by cases hi) fun _ _ => rfl
    · cases h
theorem sSs {X : Cx} {k : Nat} {C : SC} {sc : Scope} {cl : Nat → List D → CO} {cls : Nat → Value} {W : WW} (O : XOk k C sc X) (fo : FnsOk k C cl cls X) (hx : PasX cls W X) (hp : PassesOwn (model X.prog X.w) X.A X.env X.xe) (hf : ∀ x, X.fn x = true) (hk : sc.kind = .function) :
    ∀ (s : Ss) {x : List Stmt}, ckSs C sc s x = true → PSs X x (tS X.K C.g W C.ret (asSs s) (muSs s) (evSs cl s))
  | .nil, x, h => by
    simp only [ckSs] at h
    split at h
    · refine PSs.imp pss_nil fun Dn σ H w => ?_
      obtain ⟨st, R, F, r, w⟩ := w
      unfold evSs at w
      exact w σ R F H r (fun _ _ => rfl) ((Stp.refl (M := [])).weak fun i hi => by cases hi) fun _ _ => rfl
    · cases h
  | .cons a as, x, h => by
    simp only [ckSs] at h
    split at h
    · rw [Bool.and_eq_true] at h
      simp only [asSs, muSs]
      refine PSs.imp (pss_cons (sS O fo hx hp hf hk a h.1) (sSs O fo hx hp hf hk as h.2)) fun Dn σ H w => seq_sem ?_
      have ee : evSs cl (.cons a as) = fun st => match evS cl a st with | .nx st1 => evSs cl as st1 | r => r := by
        funext st
        conv => lhs; unfold evSs
        try rfl
      rw [ee] at w
      exact w
    · cases h
end
end Mini

/-! Mini, part 21: what the look says holds: defs; the law. -/
namespace Mini
open PySem (Expr Stmt Operator CmpOp UnaryOp BoolOp Const Pos Scope NameKind Addr)
open PySem PyProof.Rows
open L2
structure Txt where
  fds : List FD
  defs : List He.DefD
  free : List PySem.Str
  cst : List (PySem.Str × D)
def Txt.C (T : Txt) (fd : FD) : SC := ⟨fd.N, fd.G, T.fds, T.free, T.cst, fd.ret⟩
def fsc (N ps : List PySem.Str) (sc : Scope) : Bool :=
  (match sc.kind with | .function => true | _ => false) && (!sc.isCoroutine && (!sc.isGenerator && (decide N.Nodup && (decide (N.take ps.length = ps) && (ps.all (fun x => decide (sc.names.lookup x = some .local) || decide (sc.names.lookup x = some .cell)) && sc.names.all (fun y => !(y.2 == .free)))))))
def okD (T : Txt) (fd : FD) (d : He.DefD) : Bool :=
  decide (d.at_ = (fd.name, none)) && (d.dfl.isEmpty && (d.kwd.isEmpty && (fsc fd.N (fd.N.take fd.np) d.scope && (decide (fd.np ≤ fd.N.length) && (decide (fd.np ≤ fd.G.length) &&
    ((List.range fd.np).all (fun i => !own (fd.G.getD i .fz) || !(asSs fd.body).contains i) && ckSs (T.C fd) d.scope fd.body d.body))))))
theorem fsc_ok {N ps : List PySem.Str} {sc : Scope} (h : fsc N ps sc = true) : FnScope N ps sc := by
  unfold fsc at h
  simp only [Bool.and_eq_true, Bool.not_eq_true'] at h
  obtain ⟨h1, h2, h3, h4, h5, h6, h7⟩ := h
  refine ⟨?_, h2, h3, of_decide_eq_true h4, of_decide_eq_true h5, fun x hx => ?_, fun y hy e => ?_⟩
  · split at h1
    · assumption
    · cases h1
  · have := List.all_eq_true.mp h6 x hx
    rw [Bool.or_eq_true] at this
    exact this.elim (fun z => .inl (of_decide_eq_true z)) fun z => .inr (of_decide_eq_true z)
  · have := List.all_eq_true.mp h7 y hy
    rw [e] at this
    cases this
structure TxtOk (T : Txt) (K : PySem.W.Frag) (mg : PySem.Str → Option Value) : Prop where
  len : T.fds.length = T.defs.length
  ok : ∀ (i : Nat) (fd : FD) (d : He.DefD), T.fds[i]? = some fd → T.defs[i]? = some d → okD T fd d = true
  glo : ∀ (i : Nat) (fd : FD), T.fds[i]? = some fd → mg fd.name = some (.ref (He.fAd K (fd.name, none)))
  fn : ∀ (i : Nat) (fd : FD) (d : He.DefD), T.fds[i]? = some fd → T.defs[i]? = some d → ∃ f : PySem.FuncData, FunD K d.name d.qual d.params d.body d.scope (d.dvs K) (d.kws K) (He.fAd K d.at_) f ∧ Binds K f (fd.N.take fd.np) []
  free : ∀ x, T.free.contains x = true → mg x = none
  cst : ∀ p ∈ T.cst, ∃ u, mg p.1 = some u ∧ (match p.2 with
    | .int i => RelV (.int i) u
    | .str s => RelV (.str s) u
    | _ => False)
section
variable {K : PySem.W.Frag} {G : Nat → O} {W : WW} {σ σ' : L2.St} {st st' os : Sl} {R H R' H' : Hp} {F F' : Nat → List Addr} {M : List Nat} {f g : List Addr} {n : Nat} {vs : List V} {ds : List D}
def cutF (n : Nat) (F : Nat → List Addr) : Nat → List Addr := fun i => if i < n then F i else []
theorem Stp.cut (s : Stp M R F H R' F' H' f) (h : ∀ i, n ≤ i → F i = []) : Stp (List.range n) R F H R' (cutF n F') H' f := by
  have up : ∀ {a}, ((∃ i, i ∈ M ∧ a ∈ F i) ∨ H a = none) → (∃ j, j ∈ List.range n ∧ a ∈ F j) ∨ H a = none := fun {a} h0 => by
    rcases h0 with ⟨j, hj, z⟩ | z
    · by_cases hn : j < n
      · exact .inl ⟨j, List.mem_range.mpr hn, z⟩
      · rw [h j (by omega)] at z
        cases z
    · exact .inr z
  refine ⟨fun i hi => ?_, fun a h0 => ?_, fun a u e k => s.fr a u e fun i hi z => ?_, s.kp, s.ex, fun a u e => ?_, fun a ha i z => ?_, s.nd, s.off⟩
  · rw [List.mem_range] at hi
    rw [h i (by omega)]
    exact if_neg hi
  · rcases h0 with h0 | ⟨i, hi, h0⟩
    · exact up (s.org a (.inl h0))
    · have hi' := List.mem_range.mp hi
      unfold cutF at h0
      rw [if_pos hi'] at h0
      by_cases hm : i ∈ M
      · exact up (s.org a (.inr ⟨i, hm, h0⟩))
      · rw [s.un i hm] at h0
        exact .inl ⟨i, hi, h0⟩
  · by_cases hn : i < n
    · exact k i (List.mem_range.mpr hn) z
    · rw [h i (by omega)] at z
      cases z
  · rcases s.ro a u e with z | z
    · exact .inl z
    · exact .inr (up z)
  · unfold cutF at z
    split at z
    · exact s.dj a ha i z
    · cases z
theorem outsOf_at : ∀ {l : List O} {st os : Sl}, outsOf l st = some os → os.length = l.length ∧ ∀ i d, get os i = some d → own (l.getD i .fz) = true ∧ i < l.length ∧ get st i = some d
  | [], st, os, h => by
    unfold outsOf at h
    cases h
    exact ⟨rfl, fun i d e => by cases e⟩
  | o :: l, [], os, h => by cases h
  | o :: l, x :: st, os, h => by
    unfold outsOf at h
    cases e : outsOf l st with
    | none => rw [e] at h; cases h
    | some r =>
      rw [e] at h
      obtain ⟨l1, l2⟩ := outsOf_at e
      simp only at h
      split at h
      · rename_i ho
        cases x with
        | none => cases h
        | some d0 =>
          cases h
          refine ⟨by rw [List.length_cons, List.length_cons, l1], fun i d e2 => ?_⟩
          cases i with
          | zero => exact ⟨ho, Nat.zero_lt_succ _, e2⟩
          | succ i =>
            obtain ⟨a, b, c⟩ := l2 i d e2
            exact ⟨by simpa using a, Nat.succ_lt_succ b, c⟩
      · cases h
        refine ⟨by rw [List.length_cons, List.length_cons, l1], fun i d e2 => ?_⟩
        cases i with
        | zero => cases e2
        | succ i =>
          obtain ⟨a, b, c⟩ := l2 i d e2
          exact ⟨by simpa using a, Nat.succ_lt_succ b, c⟩
theorem outsOf_none : ∀ {l : List O} {st os : Sl} {i : Nat}, outsOf l st = some os → i < l.length → get os i = none → own (l.getD i .fz) = false
  | [], st, os, i, h, hi, _ => absurd hi (Nat.not_lt_zero _)
  | o :: l, [], os, i, h, _, _ => by cases h
  | o :: l, x :: st, os, i, h, hi, e2 => by
    unfold outsOf at h
    cases e : outsOf l st with
    | none => rw [e] at h; cases h
    | some r =>
      rw [e] at h
      simp only at h
      split at h
      · rename_i ho
        cases x with
        | none => cases h
        | some d0 =>
          cases h
          cases i with
          | zero => cases e2
          | succ i => simpa using outsOf_none (i := i) e (Nat.lt_of_succ_lt_succ hi) e2
      · rename_i ho
        cases h
        cases i with
        | zero => simpa using ho
        | succ i => simpa using outsOf_none (i := i) e (Nat.lt_of_succ_lt_succ hi) e2
/-- the state at the call's end, as the caller sees it -/
theorem rel_outs {fd : FD} (r : Rel K (gf fd) σ' st' R' H' F') (hn : fd.np ≤ fd.G.length) (ho : outsOf (fd.G.take fd.np) st' = some os) (hv : vs.length = fd.np) (hs : ∀ i, i < fd.np → own (gf fd i) = true → σ'[i]? = (vs.map some)[i]?) :
    Rel K (gf fd) (vs.map some) os R' H' (cutF fd.np F') := by
  have lt : (fd.G.take fd.np).length = fd.np := by rw [List.length_take]; omega
  have gg : ∀ i, i < fd.np → (fd.G.take fd.np).getD i .fz = gf fd i := fun i hi => by
    unfold gf
    rw [List.getD_eq_getElem?_getD, List.getD_eq_getElem?_getD, List.getElem?_take_of_lt hi]
  obtain ⟨l1, l2⟩ := outsOf_at ho
  refine ⟨by rw [l1, lt, List.length_map, hv], fun i d e => ?_, fun i e => ?_, fun i => ?_, fun i j a h1 h2 => ?_, r.sub, fun i a ha => ?_⟩
  · obtain ⟨a, b, c⟩ := l2 i d e
    rw [lt] at b
    rw [gg i b] at a
    obtain ⟨v, e1, e2⟩ := r.sl i d c
    rw [hs i b a] at e1
    refine ⟨v, e1, ?_⟩
    unfold cutF
    rw [if_pos b]
    exact e2
  · unfold cutF
    split
    · rename_i hi
      have := outsOf_none ho (by rw [lt]; exact hi) e
      rw [gg i hi] at this
      refine r.fzF ?_
      cases hg : gf fd i with
      | fz => rfl
      | _ => rw [hg] at this; cases this
    · rfl
  · unfold cutF
    split
    · exact r.nd i
    · exact List.nodup_nil
  · unfold cutF at h1 h2
    split at h1
    · split at h2
      · exact r.dj _ _ _ h1 h2
      · cases h2
    · cases h1
  · unfold cutF at ha
    split at ha
    · exact r.off i a ha
    · cases ha
theorem get_start : ∀ {ds : List D} {m i : Nat}, get (ds.map some ++ List.replicate m none) i = get (ds.map some) i
  | [], m, i => by
    show get (List.replicate m none) i = none
    induction m generalizing i with
    | zero => rfl
    | succ m ih =>
      cases i with
      | zero => rfl
      | succ i => exact ih i
  | d :: ds, m, 0 => rfl
  | d :: ds, m, i + 1 => get_start (ds := ds)
theorem get_map_none : ∀ {ds : List D} {i : Nat}, ds.length ≤ i → get (ds.map some) i = none
  | [], _, _ => rfl
  | _ :: _, 0, h => absurd h (Nat.not_succ_le_zero _)
  | d :: ds, i + 1, h => get_map_none (ds := ds) (Nat.le_of_succ_le_succ h)
theorem rel_start {N : List PySem.Str} (r : Rel K G (vs.map some) (ds.map some) R H F) (hv : vs.length = ds.length) : Rel K G (L2.start N vs) (ds.map some ++ List.replicate (N.length - ds.length) none) R H F := by
  refine ⟨by unfold L2.start; rw [List.length_append, List.length_append, List.length_map, List.length_map, List.length_replicate, List.length_replicate, hv], fun i d e => ?_, fun i e => ?_, r.nd, r.dj, r.sub, r.off⟩
  · rw [get_start] at e
    obtain ⟨v, e1, e2⟩ := r.sl i d e
    refine ⟨v, ?_, e2⟩
    unfold L2.start
    have : i < (vs.map some).length := (List.getElem?_eq_some_iff.mp e1).1
    rw [List.getElem?_append_left this]
    exact e1
  · rw [get_start] at e
    exact r.em i e
end
theorem fn_all {T : Txt} {P : Program} {w : World} {K : PySem.W.Frag} {mg : PySem.Str → Option Value} {base : Heap} {cls : Nat → Value} (to : TxtOk T K mg) : ∀ (n i : Nat) (fd : FD) (d : He.DefD) (f : PySem.FuncData), T.fds[i]? = some fd → T.defs[i]? = some d →
    FunD K d.name d.qual d.params d.body d.scope (d.dvs K) (d.kws K) (He.fAd K d.at_) f → FnOk P w K mg base (L2.CX P w) n (He.fAd K d.at_) f (fd.N.take fd.np) (spF K (callF T.fds n) cls fd i)
  | 0, i, fd, d, f, h1, h2, hF => by
    refine ⟨fun vs H Q E h => ?_, fun A outer s H args us vs Q E hr e0 hb r h => ?_⟩
    · obtain ⟨_, ds, R, F, _, _, z⟩ := h
      exact z.elim
    · obtain ⟨_, ds, R, F, _, _, z⟩ := h
      exact z.elim
  | n + 1, i, fd, d, f, h1, h2, hF => by
    have ok := to.ok i fd d h1 h2
    unfold okD at ok
    simp only [Bool.and_eq_true] at ok
    obtain ⟨o1, o2, o3, o4, o5, o6, o7, o8⟩ := ok
    have o1 := of_decide_eq_true o1
    have o5 := of_decide_eq_true o5
    have o6 := of_decide_eq_true o6
    have S := fsc_ok o4
    have ltk : (fd.N.take fd.np).length = fd.np := by rw [List.length_take]; omega
    refine hF.ok S (fun vs H Q E h => by rw [h.1, ltk]) fun cdv A outer s H vs Q E hr h => ?_
    obtain ⟨hv, ds, R, F, hd, rel, z⟩ := h
    generalize hX : cxOf (L2.CX P w) P w K mg base fd.N d.qual d.scope (He.fAd K d.at_) cdv A outer s H E = X
    have O : XOk n (T.C fd) d.scope X := by
      subst hX
      exact ⟨rfl, S.nd, rfl, rfl, to.free, to.cst, hr⟩
    have fo : FnsOk n (T.C fd) (callF T.fds n) cls X := by
      subst hX
      refine ⟨fun j fd' hj => ?_, fun j fd' hj => ?_⟩
      · have hj' : T.fds[j]? = some fd' := hj
        have lj : j < T.defs.length := by
          rw [← to.len]
          exact (List.getElem?_eq_some_iff.mp hj').1
        obtain ⟨f', F1, F2⟩ := to.fn j fd' T.defs[j] hj' (List.getElem?_eq_getElem lj)
        have okj := to.ok j fd' _ hj' (List.getElem?_eq_getElem lj)
        unfold okD at okj
        simp only [Bool.and_eq_true] at okj
        have oj := of_decide_eq_true okj.1
        refine ⟨He.fAd K (T.defs[j]).at_, f', ?_, F1.kp, F2, fn_all to n j fd' T.defs[j] f' hj' (List.getElem?_eq_getElem lj) F1⟩
        rw [oj]
        exact to.glo j fd' hj'
      · have hj' : T.fds[j]? = some fd' := hj
        have lj : j < T.defs.length := by
          rw [← to.len]
          exact (List.getElem?_eq_some_iff.mp hj').1
        have okj := to.ok j fd' _ hj' (List.getElem?_eq_getElem lj)
        unfold okD at okj
        simp only [Bool.and_eq_true] at okj
        exact of_decide_eq_true okj.2.2.2.2.2.1
    have hx : PasX cls (fun c _ H' => E (cls c) none H') X := by
      subst hX
      intro σ
      have tk := takes_of (X := cxOf (L2.CX P w) P w K mg base fd.N d.qual d.scope (He.fAd K d.at_) cdv A outer s H E) (E := E) rfl rfl rfl rfl
      have tk2 := tk.imp (W' := fun v dd σ H' => ∃ c, v = cls c ∧ dd = none ∧ E (cls c) none H') (fun v dd σ H' hh => by
        obtain ⟨c, rfl, rfl, q⟩ := hh
        exact q)
      exact passAt tk2 σ
    have hp : PassesOwn (model X.prog X.w) X.A X.env X.xe := by
      subst hX
      exact passes_of rfl
    have hf : ∀ x, X.fn x = true := by
      subst hX
      exact fun _ => rfl
    refine ⟨_, sSs O fo hx hp hf S.kind fd.body o8, ?_⟩
    have XK : X.K = K := by subst hX; rfl
    rw [XK]
    have hvd : vs.length = ds.length := by rw [hv, hd]
    refine ⟨_, R, F, rel_start (N := fd.N) rel hvd, ?_⟩
    have em : ∀ j, fd.np ≤ j → F j = [] := fun j hj => rel.em j (get_map_none (by rw [hd]; exact hj))
    have back : ∀ {σ' : L2.St}, (∀ j, j ∉ asSs fd.body → σ'[j]? = (L2.start fd.N vs)[j]?) → ∀ j, j < fd.np → own (gf fd j) = true → σ'[j]? = (vs.map some)[j]? := fun {σ'} hs j hj ho => by
      have := List.all_eq_true.mp o7 j (List.mem_range.mpr hj)
      have ho' : own (fd.G.getD j .fz) = true := ho
      rw [ho'] at this
      have nj : j ∉ asSs fd.body := fun z => by
        rw [List.contains_iff_mem.mpr z] at this
        cases this
      rw [hs j nj]
      unfold L2.start
      rw [List.getElem?_append_left (by rw [List.length_map, hv]; exact hj)]
    have z' : (match runF (callF T.fds n) fd ds with
      | .ok d os => ∀ v R' F' H' g, Rel K (gf fd) (vs.map some) os R' H' F' → RpO K R' H' fd.ret d v g → Stp (List.range fd.np) R F H R' F' H' g → Q v H'
      | .exc c os => ∀ R' F' H', Rel K (gf fd) (vs.map some) os R' H' F' → Stp (List.range fd.np) R F H R' F' H' [] → E (cls c) none H'
      | .bad => False) := by
      have e : callF T.fds (n + 1) i ds = runF (callF T.fds n) fd ds := by
        unfold callF
        rw [h1]
      rw [e] at z
      exact z
    unfold runF at z'
    rw [if_pos hd] at z'
    rw [hd]
    cases er : evSs (callF T.fds n) fd.body (ds.map some ++ List.replicate (fd.N.length - fd.np) none) with
    | bad => rw [er] at z'; exact z'
    | nx st' =>
      rw [er] at z'
      simp only at z'
      intro σ' R' F' H' r' hs s' _
      split at z'
      · rename_i d0 os eo
        split at eo
        · rename_i os' eo'
          cases eo
          exact z' .non R' (cutF fd.np F') H' [] (rel_outs r' o6 eo' hv (back hs)) (RpO.scal rfl rfl) (s'.cut em)
        · cases eo
      · rename_i c os eo
        split at eo <;> cases eo
      · exact z'.elim
    | rt dd st' =>
      rw [er] at z'
      simp only at z'
      intro σ' v R' F' H' g r' hs rp s'
      split at z'
      · rename_i d0 os eo
        split at eo
        · rename_i os' eo'
          cases eo
          exact z' v R' (cutF fd.np F') H' g (rel_outs r' o6 eo' hv (back hs)) rp (s'.cut em)
        · cases eo
      · rename_i c os eo
        split at eo <;> cases eo
      · exact z'.elim
    | ex c st' =>
      rw [er] at z'
      simp only at z'
      intro σ' R' F' H' r' hs s'
      split at z'
      · rename_i d0 os eo
        split at eo <;> cases eo
      · rename_i c os eo
        split at eo
        · rename_i os' eo'
          cases eo
          exact z' R' (cutF fd.np F') H' (rel_outs r' o6 eo' hv (back hs)) (s'.cut em)
        · cases eo
      · exact z'.elim
/-! ### the law -/
def CXw (P : Program) : CXT := fun o H s E e s' => ∃ w, L2.CX P w o H s E e s'
theorem cx_any {P : Program} {w : World} {K : PySem.W.Frag} {mg : PySem.Str → Option Value} {base : Heap} {CX CX' : CXT} {k : Nat} {f : Addr} {fd : PySem.FuncData} {ps : List PySem.Str} {sp : Sp} (F : FnOk P w K mg base CX k f fd ps sp)
    (h : ∀ o H s E e s', CX o H s E e s' → CX' o H s E e s') : FnOk P w K mg base CX' k f fd ps sp :=
  ⟨F.len, fun A outer s H args us vs Q E hr he hb hv hs => codeAny_mono (F.run A outer s H args us vs Q E hr he hb hv hs) fun r s' q => by
    cases r with
    | error e => exact h _ _ _ _ _ _ q
    | ok fl => cases fl <;> exact q⟩
theorem cxw_end {P : Program} {H : Hp} {s : Shared} {e : Value} {s' : Shared} (h : CXw P [] H s (fun _ _ _ => False) e s') : False := by
  obtain ⟨w, _, _, _, _, _, _, _, _, _, _, _, _, z⟩ := h
  exact z
def spLaw (K : PySem.W.Frag) (cl : Nat → List D → CO) (i : Nat) : Sp := fun vs H Q _ => ∃ (a : Addr) (ns : List Int), vs = [.ref a] ∧ SqL K H a (ns.map V.int) ∧ (∃ os, cl i [.scr ns] = .ok (.bl true) os) ∧ ∀ H', Q (.bl true) H'
theorem law_ok {T : Txt} {P : Program} {w : World} {K : PySem.W.Frag} {mg : PySem.Str → Option Value} {base : Heap} {n i : Nat} {fd : FD} {d : He.DefD} {f : PySem.FuncData} (to : TxtOk T K mg) (h1 : T.fds[i]? = some fd) (h2 : T.defs[i]? = some d)
    (hF : FunD K d.name d.qual d.params d.body d.scope (d.dvs K) (d.kws K) (He.fAd K d.at_) f) (hn : fd.np = 1) (hg : fd.G.getD 0 .fz = .fz) (hr : fd.ret = .fz) :
    FnOk P w K mg base (CXw P) n (He.fAd K d.at_) f (fd.N.take fd.np) (spLaw K (callF T.fds n) i) := by
  refine cx_any (CX := L2.CX P w) ((fn_all (cls := fun _ => .none) to n i fd d f h1 h2 hF).imp fun vs H Q E h => ?_) fun _ _ _ _ _ _ z => ⟨w, z⟩
  obtain ⟨a, ns, rfl, hS, ⟨os, ho⟩, hQ⟩ := h
  refine ⟨by rw [hn]; rfl, [.scr ns], H, fun _ => [], by rw [hn]; rfl, ⟨rfl, fun j dd e => ?_, fun _ _ => rfl, fun _ => List.nodup_nil, fun _ _ _ h => (by cases h), Sub.refl H, fun _ _ h => (by cases h)⟩, ?_⟩
  · cases j with
    | zero =>
      cases e
      refine ⟨.ref a, rfl, ?_⟩
      have : gf fd 0 = .fz := hg
      rw [this]
      exact ⟨⟨a, rfl, hS⟩, rfl⟩
    | succ j => cases e
  · rw [ho]
    intro v R' F' H' g _ rp _
    rw [hr] at rp
    have : v = .bl true := rp.1
    subst this
    exact hQ H'
end Mini

/-! Mini, the plain side: what is wanted of a run, walked backwards. -/
namespace Mini
def oS0 {α : Type} (x : Option α) (k : α → Prop) : Prop := match x with
  | some a => k a
  | none => False
structure oS {α : Type} (x : Option α) (k : α → Prop) : Prop where
  h : oS0 x k
theorem oS_def {α : Type} {x : Option α} {k : α → Prop} : oS x k = oS0 x k := propext ⟨fun h => h.h, fun h => ⟨h⟩⟩
def wC0 (x : CO) (k : D → Sl → Prop) : Prop := match x with
  | .ok d os => k d os
  | _ => False
structure wC (x : CO) (k : D → Sl → Prop) : Prop where
  h : wC0 x k
theorem wC_def {x : CO} {k : D → Sl → Prop} : wC x k = wC0 x k := propext ⟨fun h => h.h, fun h => ⟨h⟩⟩
def wO {α : Type} (x : Out α) (k : α → Sl → Prop) : Prop := match x with
  | .ok d st => k d st
  | _ => False
def bS (d : D) (k : Bool → Prop) : Prop := match d with
  | .bl b => k b
  | _ => False
def iS (d : D) (k : Int → Prop) : Prop := match d with
  | .int b => k b
  | _ => False
def wN (x : SO) (kn : Sl → Prop) (kr : D → Sl → Prop) : Prop := match x with
  | .nx st => kn st
  | .rt d st => kr d st
  | _ => False
section
variable {cl : Nat → List D → CO} {st : Sl} {Q : D → Sl → Prop} {Qs : List D → Sl → Prop} {kn : Sl → Prop} {kr : D → Sl → Prop}
structure wE (cl : Nat → List D → CO) (e : E) (st : Sl) (Q : D → Sl → Prop) : Prop where
  h : wO (evE cl e st) Q
theorem wE_def {cl : Nat → List D → CO} {e : E} {st : Sl} {Q : D → Sl → Prop} : wE cl e st Q = (wO (evE cl e st) Q) := propext ⟨fun h => h.h, fun h => ⟨h⟩⟩
structure wEs (cl : Nat → List D → CO) (e : Es) (st : Sl) (Q : List D → Sl → Prop) : Prop where
  h : wO (evEs cl e st) Q
theorem wEs_def {cl : Nat → List D → CO} {e : Es} {st : Sl} {Q : List D → Sl → Prop} : wEs cl e st Q = (wO (evEs cl e st) Q) := propext ⟨fun h => h.h, fun h => ⟨h⟩⟩
structure wR (cl : Nat → List D → CO) (e : Src) (st : Sl) (Q : List D → Sl → Prop) : Prop where
  h : wO (evSrc cl e st) Q
theorem wR_def {cl : Nat → List D → CO} {e : Src} {st : Sl} {Q : List D → Sl → Prop} : wR cl e st Q = (wO (evSrc cl e st) Q) := propext ⟨fun h => h.h, fun h => ⟨h⟩⟩
structure wK (cl : Nat → List D → CO) (e : Option') (st : Sl) (Q : Bool → Sl → Prop) : Prop where
  h : wO (evC cl e st) fun d s => bS d fun b => Q b s
theorem wK_def {cl : Nat → List D → CO} {e : Option'} {st : Sl} {Q : Bool → Sl → Prop} : wK cl e st Q = (wO (evC cl e st) fun d s => bS d fun b => Q b s) := propext ⟨fun h => h.h, fun h => ⟨h⟩⟩
structure wS (cl : Nat → List D → CO) (e : S) (st : Sl) (kn : Sl → Prop) (kr : D → Sl → Prop) : Prop where
  h : wN (evS cl e st) kn kr
theorem wS_def {cl : Nat → List D → CO} {e : S} {st : Sl} {kn : Sl → Prop} {kr : D → Sl → Prop} : wS cl e st kn kr = (wN (evS cl e st) kn kr) := propext ⟨fun h => h.h, fun h => ⟨h⟩⟩
structure wSs (cl : Nat → List D → CO) (e : Ss) (st : Sl) (kn : Sl → Prop) (kr : D → Sl → Prop) : Prop where
  h : wN (evSs cl e st) kn kr
theorem wSs_def {cl : Nat → List D → CO} {e : Ss} {st : Sl} {kn : Sl → Prop} {kr : D → Sl → Prop} : wSs cl e st kn kr = (wN (evSs cl e st) kn kr) := propext ⟨fun h => h.h, fun h => ⟨h⟩⟩
theorem oS_some {α : Type} {a : α} {k : α → Prop} : oS (some a) k = k a := oS_def
theorem oS_none {α : Type} {k : α → Prop} : oS none k = False := oS_def
theorem bS_bl {b : Bool} {k : Bool → Prop} : bS (.bl b) k = k b := rfl
theorem iS_int {b : Int} {k : Int → Prop} : iS (.int b) k = k b := rfl
theorem wO_bind {α β : Type} {x : Out α} {f : α → Sl → Out β} {k : β → Sl → Prop} : wO (x.bind f) k = wO x fun a s => wO (f a s) k := by
  cases x <;> rfl
theorem wO_map {α β : Type} {x : Out α} {f : α → β} {k : β → Sl → Prop} : wO (x.map f) k = wO x fun a s => k (f a) s := by
  cases x <;> rfl
theorem wE_cst {d : D} : wE cl (.cst d) st Q = Q d st := by simp only [wE_def]; unfold evE; rfl
theorem wE_glb {x : PySem.Str} {d : D} : wE cl (.glb x d) st Q = Q d st := by simp only [wE_def]; unfold evE; rfl
theorem wE_var {i : Nat} : wE cl (.var i) st Q = oS (get st i) fun d => Q d st := by
  simp only [oS_def]
  simp only [wE_def]; unfold evE
  cases get st i <;> rfl
theorem wE_sv {i : Nat} : wE cl (.sv i) st Q = oS (get st i) fun d => scal d = true ∧ Q d st := by
  simp only [oS_def]
  simp only [wE_def]; unfold evE
  cases get st i with
  | none => rfl
  | some d => cases h : scal d <;> simp [wO, oS0, h]
theorem wE_mv {i : Nat} : wE cl (.mv i) st Q = oS (get st i) fun d => Q d (put st i none) := by
  simp only [oS_def]
  simp only [wE_def]; unfold evE
  cases get st i <;> rfl
theorem wE_rf {i : Nat} : wE cl (.rf i) st Q = oS (get st i) fun _ => Q .non st := by
  simp only [oS_def]
  simp only [wE_def]; unfold evE
  cases get st i <;> rfl
theorem wE_frz {a : E} : wE cl (.frz a) st Q = wE cl a st Q := by
  simp only [wE_def]
  conv => lhs; unfold evE
theorem wE_op {o : Op} {as : Es} : wE cl (.op o as) st Q = wEs cl as st fun ds s => oS (sem o ds) fun d => Q d s := by
  simp only [oS_def]
  simp only [wE_def, wEs_def]
  conv => lhs; unfold evE
  rw [wO_bind]
  congr 1
  funext ds s
  cases sem o ds <;> rfl
theorem wEs_nil : wEs cl .nil st Qs = Qs [] st := by simp only [wEs_def]; unfold evEs; rfl
theorem wEs_cons {a : E} {as : Es} : wEs cl (.cons a as) st Qs = wE cl a st fun d s => wEs cl as s fun ds s2 => Qs (d :: ds) s2 := by
  simp only [wEs_def, wE_def]
  conv => lhs; unfold evEs
  rw [wO_bind]
  congr 1
  funext d s
  rw [wO_map]
theorem wE_and {a b : E} : wE cl (.and_ a b) st Q = wE cl a st fun d s => bS d fun c => if c = true then wE cl b s (fun d2 s2 => bS d2 fun r => Q (.bl r) s2) else Q (.bl false) s := by
  simp only [wE_def]
  conv => lhs; unfold evE
  cases evE cl a st with
  | ok d s =>
    cases d with
    | bl c =>
      cases c with
      | true =>
        simp only [wO, bS, if_true]
        cases evE cl b s with
        | ok d2 s2 => cases d2 <;> rfl
        | _ => rfl
      | false => simp [wO, bS]
    | _ => rfl
  | _ => rfl
theorem wE_or {a b : E} : wE cl (.or_ a b) st Q = wE cl a st fun d s => bS d fun c => if c = true then Q (.bl true) s else wE cl b s (fun d2 s2 => bS d2 fun r => Q (.bl r) s2) := by
  simp only [wE_def]
  conv => lhs; unfold evE
  cases evE cl a st with
  | ok d s =>
    cases d with
    | bl c =>
      cases c with
      | false =>
        simp only [wO, bS, Bool.false_eq_true, if_false]
        cases evE cl b s with
        | ok d2 s2 => cases d2 <;> rfl
        | _ => rfl
      | true => simp [wO, bS]
    | _ => rfl
  | _ => rfl
theorem wE_ite {c a b : E} : wE cl (.ite c a b) st Q = wE cl c st fun d s => bS d fun k => if k = true then wE cl a s Q else wE cl b s Q := by
  simp only [wE_def]
  conv => lhs; unfold evE
  cases evE cl c st with
  | ok d s =>
    cases d with
    | bl c => cases c <;> simp [wO, bS]
    | _ => rfl
  | _ => rfl
theorem wE_call {f : Nat} {as : Es} : wE cl (.call f as) st Q = wEs cl as st fun ds s => oS (fill (refs as) ds s) fun ds1 => wC (cl f ds1) fun d os => Q d (backR (refs as) os s) := by
  simp only [oS_def]
  simp only [wE_def, wEs_def]
  conv => lhs; unfold evE
  rw [wO_bind]
  congr 1
  funext ds s
  cases fill (refs as) ds s with
  | none => rfl
  | some ds1 =>
    simp only [oS0, wC_def]
    cases cl f ds1 <;> rfl
theorem wE_bm {m : Bm} {a : E} {as : Es} : wE cl (.bm m a as) st Q = wE cl a st fun d s => recM m d = true ∧ wEs cl as s fun ds s2 => oS (semM m d ds) fun r => Q r s2 := by
  simp only [oS_def]
  simp only [wE_def, wEs_def]
  conv => lhs; unfold evE
  rw [wO_bind]
  congr 1
  funext d s
  cases h : recM m d with
  | false => simp [wO]
  | true =>
    simp only [if_true, true_and]
    rw [wO_bind]
    congr 1
    funext ds s2
    cases semM m d ds <;> rfl
theorem wE_pop {i : Nat} {a : E} : wE cl (.pop i a) st Q = (isLst (get st i) = true ∧ wE cl a st fun d s => iS d fun k => oS (get s i) fun l => match l with
    | .lst xs => -(2 ^ 63) ≤ k ∧ k < 2 ^ 63 ∧ oS (L2.ixN xs.length k) fun j => oS xs[j]? fun y => Q y (put s i (some (.lst (xs.eraseIdx j))))
    | _ => False) := by
  simp only [oS_def]
  simp only [wE_def]
  conv => lhs; unfold evE
  cases h : isLst (get st i) with
  | false => simp [wO]
  | true =>
    simp only [if_true, true_and]
    rw [wO_bind]
    congr 1
    funext d s
    cases d with
    | int k =>
      simp only [iS]
      cases get s i with
      | none => rfl
      | some l =>
        cases l with
        | lst xs =>
          simp only [oS0]
          by_cases hk : -(2 ^ 63) ≤ k ∧ k < 2 ^ 63
          · rw [if_pos hk]
            cases L2.ixN xs.length k with
            | none => exact propext ⟨fun h => h.elim, fun h => h.2.2⟩
            | some j =>
              simp only
              cases xs[j]? with
              | none => exact propext ⟨fun h => h.elim, fun h => h.2.2⟩
              | some y => exact propext ⟨fun h => ⟨hk.1, hk.2, h⟩, fun h => h.2.2⟩
          · rw [if_neg hk]
            simp only [wO]
            refine propext ⟨fun h => h.elim, fun h => hk ⟨h.1, h.2.1⟩⟩
        | _ => rfl
    | _ => rfl
theorem wK_none {Q : Bool → Sl → Prop} : wK cl .none st Q = Q true st := by simp only [wK_def]; unfold evC; rfl
theorem wK_some {a : E} {Q : Bool → Sl → Prop} : wK cl (.some a) st Q = wE cl a st fun d s => bS d fun b => Q b s := by
  simp only [wK_def, wE_def]
  conv => lhs; unfold evC
theorem wR_seq {a : E} : wR cl (.seq a) st Qs = wE cl a st fun d s => oS (itemsD d) fun ds => Qs ds s := by
  simp only [oS_def]
  simp only [wR_def, wE_def]
  conv => lhs; unfold evSrc
  rw [wO_bind]
  congr 1
  funext d s
  cases itemsD d <;> rfl
theorem wR_rng1 {a : E} : wR cl (.rng1 a) st Qs = wE cl a st fun d s => iS d fun n => (-(2 ^ 62) ≤ n ∧ n < 2 ^ 62) ∧ Qs (rngD 0 n.toNat) s := by
  simp only [wR_def, wE_def]
  conv => lhs; unfold evSrc
  rw [wO_bind]
  congr 1
  funext d s
  cases d with
  | int n =>
    by_cases h : -(2 ^ 62) ≤ n ∧ n < 2 ^ 62
    · show wO (if _ then _ else _) Qs = _
      rw [if_pos h]
      exact propext ⟨fun q => ⟨h, q⟩, fun q => q.2⟩
    · show wO (if _ then _ else _) Qs = _
      rw [if_neg h]
      exact propext ⟨fun q => q.elim, fun q => h q.1⟩
  | _ => rfl
theorem wR_rng2 {a b : E} : wR cl (.rng2 a b) st Qs = wE cl a st fun d s => wE cl b s fun e s2 => iS d fun i => iS e fun j => (-(2 ^ 62) ≤ i ∧ i < 2 ^ 62 ∧ -(2 ^ 62) ≤ j ∧ j < 2 ^ 62) ∧ Qs (rngD i (j - i).toNat) s2 := by
  simp only [wR_def, wE_def]
  conv => lhs; unfold evSrc
  rw [wO_bind]
  congr 1
  funext d s
  rw [wO_bind]
  congr 1
  funext e s2
  cases d with
  | int i =>
    cases e with
    | int j =>
      by_cases h : -(2 ^ 62) ≤ i ∧ i < 2 ^ 62 ∧ -(2 ^ 62) ≤ j ∧ j < 2 ^ 62
      · show wO (if _ then _ else _) Qs = _
        rw [if_pos h]
        exact propext ⟨fun q => ⟨h, q⟩, fun q => q.2⟩
      · show wO (if _ then _ else _) Qs = _
        rw [if_neg h]
        exact propext ⟨fun q => q.elim, fun q => h q.1⟩
    | _ => rfl
  | _ => cases e <;> rfl
theorem wR_zip {as : Es} : wR cl (.zip as) st Qs = wEs cl as st fun ds s => oS (zipsD ds) fun l => Qs l s := by
  simp only [oS_def]
  simp only [wR_def, wEs_def]
  conv => lhs; unfold evSrc
  rw [wO_bind]
  congr 1
  funext d s
  cases zipsD d <;> rfl
/-! comprehensions: I by what is still to come and what is had -/
theorem comp_go {tg : List Nat} {un : Bool} {c : Option'} {e : E} (I : List D → List D → Sl → Prop) (step : ∀ d ds acc s, I (d :: ds) acc s → oS (bindT tg un d s) fun s1 => wK cl c s1 fun b s2 => if b = true then wE cl e s2 fun y s3 => I ds (acc ++ [y]) (clear tg s3) else I ds acc (clear tg s2)) :
    ∀ (ds acc : List D) (s : Sl), I ds acc s → ∃ r s', compLoop (bindT tg un) (clear tg) (fun s => evC cl c s) (fun s => evE cl e s) ds s = .ok r s' ∧ I [] (acc ++ r) s'
  | [], acc, s, h => ⟨[], s, rfl, by rw [List.append_nil]; exact h⟩
  | d :: ds, acc, s, h => by
    have h := step d ds acc s h
    simp only [oS_def] at h
    unfold compLoop
    cases e1 : bindT tg un d s with
    | none => rw [e1] at h; exact h.elim
    | some s1 =>
      rw [e1] at h
      simp only
      have h : wK cl c s1 _ := h
      simp only [wK_def] at h
      cases e2 : evC cl c s1 with
      | ok b s2 =>
        rw [e2] at h
        cases b with
        | bl b =>
          have h : (if b = true then _ else _) := h
          cases b with
          | true =>
            rw [if_pos rfl] at h
            simp only
            simp only [wE_def] at h
            cases e3 : evE cl e s2 with
            | ok y s3 =>
              rw [e3] at h
              obtain ⟨r, s', h1, h2⟩ := comp_go I step ds (acc ++ [y]) (clear tg s3) h
              refine ⟨y :: r, s', ?_, ?_⟩
              · simp only [h1]
                rfl
              · rw [List.append_assoc] at h2
                exact h2
            | _ => rw [e3] at h; exact h.elim
          | false =>
            rw [if_neg Bool.false_ne_true] at h
            simp only
            exact comp_go I step ds acc (clear tg s2) h
        | _ => exact h.elim
      | _ => rw [e2] at h; exact h.elim
def CompK (cl : Nat → List D → CO) (tg : List Nat) (un : Bool) (c : Option') (e : E) (Q : D → Sl → Prop) (ds : List D) (st1 : Sl) : Prop := ∃ I : List D → List D → Sl → Prop, I ds [] (clear tg st1) ∧
    (∀ d ds acc s, I (d :: ds) acc s → oS (bindT tg un d s) fun s1 => wK cl c s1 fun b s2 => if b = true then wE cl e s2 fun y s3 => I ds (acc ++ [y]) (clear tg s3) else I ds acc (clear tg s2)) ∧
    ∀ r s', I [] r s' → r.length ≤ lim ∧ Q (.lst r) (back tg st1 s')
def ForK (cl : Nat → List D → CO) (tg : List Nat) (un : Bool) (b : Ss) (kn : Sl → Prop) (kr : D → Sl → Prop) (ds : List D) (st1 : Sl) : Prop := ∃ I : List D → Sl → Prop, I ds st1 ∧ (∀ d ds s, I (d :: ds) s → oS (bindT tg un d s) fun s1 => wSs cl b s1 (I ds) kr) ∧ ∀ s, I [] s → kn s
theorem wE_comp {k : O} {tg : List Nat} {un : Bool} {s : Src} {c : Option'} {e : E} (h : wR cl s st (CompK cl tg un c e Q)) : wE cl (.comp k tg un s c e) st Q := by
  simp only [wE_def]
  unfold evE
  rw [wO_bind]
  simp only [wR_def] at h
  cases e1 : evSrc cl s st with
  | ok ds st1 =>
    rw [e1] at h
    obtain ⟨I, h0, step, fin⟩ := h
    obtain ⟨r, s', h1, h2⟩ := comp_go I step ds [] _ h0
    obtain ⟨f1, f2⟩ := fin r s' h2
    show wO (match compLoop _ _ _ _ ds (clear tg st1) with | .ok r st2 => _ | _ => _) Q
    rw [h1]
    simp only [if_pos f1]
    exact f2
  | _ => rw [e1] at h; exact h.elim
/-! statements -/
theorem wSs_nil : wSs cl .nil st kn kr = kn st := by simp only [wSs_def]; unfold evSs; rfl
theorem wSs_cons {a : S} {as : Ss} : wSs cl (.cons a as) st kn kr = wS cl a st (fun s => wSs cl as s kn kr) kr := by
  simp only [wSs_def, wS_def]
  conv => lhs; unfold evSs
  cases evS cl a st <;> rfl
theorem wS_set {i : Nat} {e : E} : wS cl (.set i e) st kn kr = wE cl e st fun d s => kn (put s i (some d)) := by
  simp only [wS_def, wE_def]
  conv => lhs; unfold evS
  cases evE cl e st <;> rfl
theorem wS_unp {l : Bool} {is : List Nat} {e : E} : wS cl (.unp l is e) st kn kr = wE cl e st fun d s => oS (unpD l d) fun ds => oS (bindL is ds s) kn := by
  simp only [oS_def]
  simp only [wS_def, wE_def]
  conv => lhs; unfold evS
  cases evE cl e st with
  | ok d s =>
    simp only [wO]
    cases unpD l d with
    | none => rfl
    | some ds =>
      simp only [oS0]
      cases bindL is ds s <;> rfl
  | _ => rfl
theorem wS_sidx {i : Nat} {k e : E} : wS cl (.sidx i k e) st kn kr = wE cl e st fun d s => isLst (get s i) = true ∧ wE cl k s fun kd s2 => iS kd fun k => oS (get s2 i) fun l => match l with
    | .lst xs => oS (L2.ixN xs.length k) fun j => kn (put s2 i (some (.lst (xs.set j d))))
    | _ => False := by
  simp only [oS_def]
  simp only [wS_def, wE_def]
  conv => lhs; unfold evS
  cases evE cl e st with
  | ok d s =>
    simp only [wO]
    cases h : isLst (get s i) with
    | false => simp [wN]
    | true =>
      simp only [if_true, true_and]
      cases evE cl k s with
      | ok kd s2 =>
        cases kd with
        | int k =>
          simp only [iS]
          cases get s2 i with
          | none => rfl
          | some l =>
            cases l with
            | lst xs =>
              simp only [oS0]
              cases L2.ixN xs.length k <;> rfl
            | _ => rfl
        | _ => rfl
      | _ => rfl
  | _ => rfl
theorem wS_smt {m : Mop} {i : Nat} {as : Es} : wS cl (.smt m i as) st kn kr = (isLst (get st i) = true ∧ wEs cl as st fun ds s => oS (get s i) fun l => match l with
    | .lst xs => oS (mopD m xs ds) fun ys => kn (put s i (some (.lst ys)))
    | _ => False) := by
  simp only [oS_def]
  simp only [wS_def, wEs_def]
  conv => lhs; unfold evS
  cases h : isLst (get st i) with
  | false => simp [wN]
  | true =>
    simp only [if_true, true_and]
    cases evEs cl as st with
    | ok ds s =>
      simp only [wO]
      cases get s i with
      | none => rfl
      | some l =>
        cases l with
        | lst xs =>
          simp only [oS0]
          cases mopD m xs ds <;> rfl
        | _ => rfl
    | _ => rfl
theorem wS_ex {e : E} : wS cl (.ex e) st kn kr = wE cl e st fun _ s => kn s := by
  simp only [wS_def, wE_def]
  conv => lhs; unfold evS
  cases evE cl e st <;> rfl
theorem wS_ret {e : E} : wS cl (.ret e) st kn kr = wE cl e st kr := by
  simp only [wS_def, wE_def]
  conv => lhs; unfold evS
  cases evE cl e st <;> rfl
theorem wS_ite {c : E} {a b : Ss} : wS cl (.ite c a b) st kn kr = wE cl c st fun d s => bS d fun k => if k = true then wSs cl a s kn kr else wSs cl b s kn kr := by
  simp only [wS_def, wE_def, wSs_def]
  conv => lhs; unfold evS
  cases evE cl c st with
  | ok d s =>
    cases d with
    | bl c => cases c <;> simp [wO, bS]
    | _ => rfl
  | _ => rfl
theorem wS_pass : wS cl .pass st kn kr = kn st := by simp only [wS_def]; unfold evS; rfl
theorem for_go {tg : List Nat} {un : Bool} {b : Ss} (I : List D → Sl → Prop) (step : ∀ d ds s, I (d :: ds) s → oS (bindT tg un d s) fun s1 => wSs cl b s1 (I ds) kr) (fin : ∀ s, I [] s → kn s) :
    ∀ (ds : List D) (s : Sl), I ds s → wN (forLoop (bindT tg un) (fun s => evSs cl b s) ds s) kn kr
  | [], s, h => fin s h
  | d :: ds, s, h => by
    have h := step d ds s h
    simp only [oS_def] at h
    unfold forLoop
    cases e1 : bindT tg un d s with
    | none => rw [e1] at h; exact h.elim
    | some s1 =>
      rw [e1] at h
      simp only
      have h : wSs cl b s1 (I ds) kr := h
      simp only [wSs_def] at h
      cases e2 : evSs cl b s1 with
      | nx s2 =>
        rw [e2] at h
        exact for_go I step fin ds s2 h
      | rt d s2 =>
        rw [e2] at h
        exact h
      | _ => rw [e2] at h; exact h.elim
theorem wS_for {tg : List Nat} {un : Bool} {src : Src} {b : Ss} (h : wR cl src st (ForK cl tg un b kn kr)) : wS cl (.for_ tg un src b) st kn kr := by
  simp only [wS_def]
  unfold evS
  simp only [wR_def] at h
  cases e1 : evSrc cl src st with
  | ok ds st1 =>
    rw [e1] at h
    obtain ⟨I, h0, step, fin⟩ := h
    exact for_go I step fin ds st1 h0
  | _ => rw [e1] at h; exact h.elim
/-! defs -/
theorem wC_mono {x : CO} {k k' : D → Sl → Prop} (h : wC x k) (hk : ∀ d os, k d os → k' d os) : wC x k' := by
  rw [wC_def] at h ⊢
  cases x with
  | ok d os => exact hk d os h
  | _ => exact h.elim
theorem wE_mono {e : E} {Q' : D → Sl → Prop} (h : wE cl e st Q) (hk : ∀ d s, Q d s → Q' d s) : wE cl e st Q' := by
  simp only [wE_def] at h ⊢
  cases e1 : evE cl e st with
  | ok d s => rw [e1] at h; exact hk d s h
  | _ => rw [e1] at h; exact h.elim
/-- what a call leaves -/
def wOut (fd : FD) (d : D) (st : Sl) (k : D → Sl → Prop) : Prop := oS (outsOf (fd.G.take fd.np) st) fun os => k d os
theorem wC_call {fds : List FD} {n f : Nat} {fd : FD} {ds : List D} {k : D → Sl → Prop} (hf : fds[f]? = some fd) (hd : ds.length = fd.np)
    (h : wSs (callF fds n) fd.body (ds.map some ++ List.replicate (fd.N.length - fd.np) none) (fun s => wOut fd .non s k) (fun d s => wOut fd d s k)) : wC (callF fds (n + 1) f ds) k := by
  rw [wC_def]
  unfold callF
  rw [hf]
  simp only
  unfold runF
  rw [if_pos hd]
  simp only [wSs_def] at h
  cases e : evSs (callF fds n) fd.body (ds.map some ++ List.replicate (fd.N.length - fd.np) none) with
  | nx s =>
    rw [e] at h
    have h : wOut fd .non s k := h
    unfold wOut at h
    rw [oS_def] at h
    simp only
    cases e2 : outsOf (fd.G.take fd.np) s with
    | none => rw [e2] at h; exact h.elim
    | some os => rw [e2] at h; exact h
  | rt d s =>
    rw [e] at h
    have h : wOut fd d s k := h
    unfold wOut at h
    rw [oS_def] at h
    simp only
    cases e2 : outsOf (fd.G.take fd.np) s with
    | none => rw [e2] at h; exact h.elim
    | some os => rw [e2] at h; exact h
  | _ => rw [e] at h; exact h.elim
end
end Mini

/-! Mini, the plain side: the operations at work; plain data. -/
namespace Mini
open PySem
theorem sem_neg {i : Int} : sem .neg [.int i] = some (.int (-i)) := rfl
theorem sem_not {b : Bool} : sem .not_ [.bl b] = some (.bl (!b)) := rfl
theorem sem_isN {d : D} : sem .isN [d] = some (.bl (isNon d)) := rfl
theorem sem_notN {d : D} : sem .notN [d] = some (.bl (!isNon d)) := rfl
theorem sem_addI {i j : Int} : sem .addI [.int i, .int j] = some (.int (i + j)) := rfl
theorem sem_sub {i j : Int} : sem .sub [.int i, .int j] = some (.int (i - j)) := rfl
theorem sem_mulI {i j : Int} (h : (-(2 ^ 64) < i ∧ i < 2 ^ 64) ∨ (-(2 ^ 64) < j ∧ j < 2 ^ 64)) : sem .mulI [.int i, .int j] = some (.int (i * j)) := if_pos h
theorem sem_fdiv {i j : Int} (h : 0 < j) (h2 : j < 2 ^ 4000) : sem .fdiv [.int i, .int j] = some (.int (i / j)) := if_pos ⟨h, h2⟩
theorem sem_fdivS {i j : Int} (h : 0 < j) (h2 : j < 4611686018427387904) : sem .fdiv [.int i, .int j] = some (.int (i / j)) := sem_fdiv h (Int.lt_trans h2 (by decide +kernel))
theorem sem_mulS {i j : Int} (h : (-18446744073709551616 < i ∧ i < 18446744073709551616) ∨ (-18446744073709551616 < j ∧ j < 18446744073709551616)) : sem .mulI [.int i, .int j] = some (.int (i * j)) := if_pos h
theorem at3_0 {x y z : D} : atD [x, y, z] 0 = some x := rfl
theorem at3_1 {x y z : D} : atD [x, y, z] 1 = some y := rfl
theorem at3_2 {x y z : D} : atD [x, y, z] 2 = some z := rfl
theorem at2_0 {x y : D} : atD [x, y] 0 = some x := rfl
theorem at2_1 {x y : D} : atD [x, y] 1 = some y := rfl
theorem ix3_0 : L2.ixN 3 0 = some 0 := rfl
theorem ix3_1 : L2.ixN 3 1 = some 1 := rfl
theorem ix3_2 : L2.ixN 3 2 = some 2 := rfl
theorem sem_mod {i j : Int} (h : 0 < j) : sem .mod [.int i, .int j] = some (.int (i % j)) := if_pos h
theorem sem_lt {i j : Int} : sem .lt [.int i, .int j] = some (.bl (decide (i < j))) := rfl
theorem sem_le {i j : Int} : sem .le [.int i, .int j] = some (.bl (decide (i ≤ j))) := rfl
theorem sem_gt {i j : Int} : sem .gt [.int i, .int j] = some (.bl (decide (j < i))) := rfl
theorem sem_ge {i j : Int} : sem .ge [.int i, .int j] = some (.bl (decide (j ≤ i))) := rfl
theorem sem_eq {a b : D} : sem .eq [a, b] = (eqD a b).map .bl := rfl
theorem sem_ne {a b : D} : sem .ne [a, b] = (eqD a b).map fun x => .bl (!x) := rfl
theorem sem_in {a b : D} : sem .in_ [a, b] = (inD a b).map .bl := rfl
theorem sem_ni {a b : D} : sem .ni [a, b] = (inD a b).map fun x => .bl (!x) := rfl
theorem sem_ixL {xs : List D} {i : Int} : sem .ix [.lst xs, .int i] = atD xs i := rfl
theorem sem_ixT {xs : List D} {i : Int} : sem .ix [.tup xs, .int i] = atD xs i := rfl
theorem sem_ixS {ns : List Int} {i : Int} : sem .ix [.scr ns, .int i] = (L2.atI ns i).map .int := rfl
theorem sem_lenL {xs : List D} : sem .len [.lst xs] = some (.int xs.length) := rfl
theorem sem_lenT {xs : List D} : sem .len [.tup xs] = some (.int xs.length) := rfl
theorem sem_lenS {xs : List Int} : sem .len [.scr xs] = some (.int xs.length) := rfl
theorem sem_abs {i : Int} : sem .abs [.int i] = some (.int (if i < 0 then -i else i)) := rfl
theorem sem_max2 {i j : Int} : sem .max2 [.int i, .int j] = some (.int (if j > i then j else i)) := rfl
theorem sem_min2 {i j : Int} : sem .min2 [.int i, .int j] = some (.int (if j < i then j else i)) := rfl
theorem sem_tupL {xs : List D} : sem .tuple [.lst xs] = some (.tup xs) := rfl
theorem sem_tupT {xs : List D} : sem .tuple [.tup xs] = some (.tup xs) := rfl
theorem sem_listL {xs : List D} : sem .list [.lst xs] = some (.lst xs) := rfl
theorem sem_listT {xs : List D} : sem .list [.tup xs] = some (.lst xs) := rfl
theorem sem_sorted {xs : List D} : sem .sorted [.lst xs] = (sortD xs).map .lst := rfl
theorem sem_all {xs : List D} : sem .all [.lst xs] = (boolsD xs).map fun bs => .bl (bs.all id) := rfl
theorem sem_intB {b : Bool} : sem .int [.bl b] = some (.int (if b then 1 else 0)) := rfl
theorem sem_intI {i : Int} : sem .int [.int i] = some (.int i) := rfl
theorem sem_isL {xs : List D} : sem .isL [.lst xs] = some (.bl true) := rfl
theorem sem_cat {xs ys : List D} (h : xs.length + ys.length ≤ lim) : sem .cat [.lst xs, .lst ys] = some (.lst (xs ++ ys)) := if_pos h
theorem sem_rep {xs : List D} {k : Int} (h : -(2 ^ 63) ≤ k ∧ k < 2 ^ 63 ∧ xs.length * k.toNat ≤ lim) : sem .rep [.lst xs, .int k] = some (.lst (List.replicate k.toNat xs).flatten) := if_pos h
theorem sem_rngL {n : Int} (h : -(2 ^ 62) ≤ n ∧ n ≤ lim) : sem .rngL [.int n] = some (.lst ((List.range n.toNat).map fun (k : Nat) => D.int (k : Int))) := if_pos h
theorem sem_mkL0 {c : O} : sem (.mkL c) [] = some (.lst []) := rfl
theorem sem_mkL1 {c : O} {a : D} : sem (.mkL c) [a] = some (.lst [a]) := rfl
theorem sem_mkL2 {c : O} {a b : D} : sem (.mkL c) [a, b] = some (.lst [a, b]) := rfl
theorem sem_mkL3 {c : O} {a b e : D} : sem (.mkL c) [a, b, e] = some (.lst [a, b, e]) := rfl
theorem sem_mkT0 {c : O} : sem (.mkT c) [] = some (.tup []) := rfl
theorem sem_mkT1 {c : O} {a : D} : sem (.mkT c) [a] = some (.tup [a]) := rfl
theorem sem_mkT2 {c : O} {a b : D} : sem (.mkT c) [a, b] = some (.tup [a, b]) := rfl
theorem sem_mkT3 {c : O} {a b e : D} : sem (.mkT c) [a, b, e] = some (.tup [a, b, e]) := rfl
theorem sem_pow {i j : Int} (h : 0 ≤ j ∧ j ≤ 1000000 ∧ i.natAbs < 2 ^ 64) : sem .pow [.int i, .int j] = some (.int (i ^ j.toNat)) := if_pos h
theorem mop_app {xs : List D} {d : D} (h : xs.length < lim) : mopD .append xs [d] = some (xs ++ [d]) := if_pos h
theorem atD_nat {xs : List D} {i : Nat} {d : D} (h : xs[i]? = some d) : atD xs (i : Int) = some d := by
  have hl := (List.getElem?_eq_some_iff.mp h).1
  unfold atD L2.atI L2.ixN
  rw [if_pos (by omega), if_pos (by omega)]
  exact h
theorem atD_int {xs : List D} {i : Int} {d : D} (h0 : 0 ≤ i) (h : xs[i.toNat]? = some d) : atD xs i = some d := by
  have : i = (i.toNat : Int) := by omega
  rw [this]
  exact atD_nat h
theorem atD_neg {xs : List D} {d : D} (h : xs.getLast? = some d) : atD xs (-1) = some d := by
  have hne : xs ≠ [] := fun e => by rw [e] at h; cases h
  have hl : 0 < xs.length := List.length_pos_iff.mpr hne
  unfold atD L2.atI L2.ixN
  rw [if_neg (by omega), if_pos (by omega)]
  rw [List.getLast?_eq_getElem?] at h
  have : (-1 + (xs.length : Int)).toNat = xs.length - 1 := by omega
  simp only [Option.bind]
  rw [this]
  exact h
theorem ixN_int {n : Nat} {i : Int} (h0 : 0 ≤ i) (h : i < n) : L2.ixN n i = some i.toNat := by
  unfold L2.ixN
  rw [if_pos h0, if_pos h]
/-! plain data -/
def pl : Nat → D → Bool
  | _, .non => true
  | _, .bl _ => true
  | _, .int _ => true
  | n + 1, .tup ds => ds.all (pl n)
  | n + 1, .lst ds => ds.all (pl n)
  | _, _ => false
theorem pyL_ok {n : Nat} (ih : ∀ d, pl n d = true → ∃ p, d.py = some p ∧ PyData.canLay0 p = true ∧ PyData.depth p ≤ n) : ∀ ds : List D, ds.all (pl n) = true → ∃ ps, pyL ds = some ps ∧ PyData.canLayAll0 ps = true ∧ PyData.depthAll ps ≤ n ∧ ps.length = ds.length
  | [], _ => ⟨[], by unfold pyL; rfl, by simp [PyData.canLayAll0], by simp [PyData.depthAll], rfl⟩
  | d :: ds, h => by
    rw [List.all_cons, Bool.and_eq_true] at h
    obtain ⟨p, e1, l1, d1⟩ := ih d h.1
    obtain ⟨ps, e2, l2, d2, n2⟩ := pyL_ok ih ds h.2
    refine ⟨p :: ps, ?_, by simp [PyData.canLayAll0, l1, l2], ?_, by simp [n2]⟩
    · unfold pyL
      rw [e1, e2]
    · simp only [PyData.depthAll]
      omega
theorem pl_py : ∀ (n : Nat) (d : D), pl n d = true → ∃ p, d.py = some p ∧ PyData.canLay0 p = true ∧ PyData.depth p ≤ n
  | n, .non, _ => ⟨.none, by unfold D.py; rfl, by simp [PyData.canLay0], by simp [PyData.depth]⟩
  | n, .bl b, _ => ⟨.bool b, by unfold D.py; rfl, by simp [PyData.canLay0], by simp [PyData.depth]⟩
  | n, .int i, _ => ⟨.int i, by unfold D.py; rfl, by simp [PyData.canLay0], by simp [PyData.depth]⟩
  | n + 1, .tup ds, h => by
    have h : ds.all (pl n) = true := h
    obtain ⟨ps, e, l, dd, _⟩ := pyL_ok (pl_py n) ds h
    refine ⟨.tuple ps, ?_, by simp [PyData.canLay0, l], ?_⟩
    · unfold D.py
      rw [e]
      rfl
    · simp only [PyData.depth]
      omega
  | n + 1, .lst ds, h => by
    have h : ds.all (pl n) = true := h
    obtain ⟨ps, e, l, dd, _⟩ := pyL_ok (pl_py n) ds h
    refine ⟨.list ps, ?_, by simp [PyData.canLay0, l], ?_⟩
    · unfold D.py
      rw [e]
      rfl
    · simp only [PyData.depth]
      omega
  | 0, .tup _, h => by simp [pl] at h
  | 0, .lst _, h => by simp [pl] at h
  | 0, .str _, h => by simp [pl] at h
  | n + 1, .str _, h => by simp [pl] at h
  | 0, .scr _, h => by simp [pl] at h
  | n + 1, .scr _, h => by simp [pl] at h
  | 0, .dct _, h => by simp [pl] at h
  | n + 1, .dct _, h => by simp [pl] at h
  | 0, .obj _ _, h => by simp [pl] at h
  | n + 1, .obj _ _, h => by simp [pl] at h
  | 0, .exn _, h => by simp [pl] at h
  | n + 1, .exn _, h => by simp [pl] at h
theorem shaped_of {p : PyData} {n : Nat} (h1 : PyData.canLay0 p = true) (h2 : PyData.depth p ≤ n) (hn : n ≤ 64) : SeqAt.shaped p = true := by
  unfold SeqAt.shaped
  rw [h1, Bool.true_and]
  exact decide_eq_true (Nat.le_trans h2 hn)
mutual
theorem eqv_self : ∀ p : PyData, PyData.canLay0 p = true → PyData.eqv p p = true
  | .none, _ => by simp [PyData.eqv]
  | .bool b, _ => by simp [PyData.eqv]
  | .int i, _ => by simp [PyData.eqv]
  | .str x, _ => by simp [PyData.eqv]
  | .list xs, h => by
    simp only [PyData.eqv]
    exact eqvAll_self xs (by simpa [PyData.canLay0] using h)
  | .tuple xs, h => by
    simp only [PyData.eqv]
    exact eqvAll_self xs (by simpa [PyData.canLay0] using h)
  | .dict _, h => by simp [PyData.canLay0] at h
theorem eqvAll_self : ∀ ps : List PyData, PyData.canLayAll0 ps = true → PyData.eqvAll ps ps = true
  | [], _ => by simp [PyData.eqvAll]
  | p :: ps, h => by
    simp only [PyData.canLayAll0, Bool.and_eq_true] at h
    simp only [PyData.eqvAll, Bool.and_eq_true]
    exact ⟨eqv_self p h.1, eqvAll_self ps h.2⟩
end
theorem eqD_self {n : Nat} {d : D} (h : pl n d = true) (hn : n ≤ 64) : eqD d d = some true := by
  obtain ⟨p, e, l, dd⟩ := pl_py n d h
  unfold eqD
  rw [e]
  simp only
  rw [shaped_of l dd hn]
  simp [eqv_self p l]
theorem eqD_some {n m : Nat} {a b : D} (h : pl n a = true) (h2 : pl m b = true) (hn : n ≤ 64) (hm : m ≤ 64) : ∃ c, eqD a b = some c := by
  obtain ⟨p, e, l, dd⟩ := pl_py n a h
  obtain ⟨q, e2, l2, dd2⟩ := pl_py m b h2
  unfold eqD
  rw [e, e2]
  simp only
  rw [shaped_of l dd hn, shaped_of l2 dd2 hm]
  exact ⟨_, rfl⟩
theorem eqD_int {i j : Int} : eqD (.int i) (.int j) = some (decide (i = j)) := by
  unfold eqD D.py
  have h1 : SeqAt.shaped (.int i) = true := shaped_of (n := 0) (by simp [PyData.canLay0]) (by simp [PyData.depth]) (by omega)
  have h2 : SeqAt.shaped (.int j) = true := shaped_of (n := 0) (by simp [PyData.canLay0]) (by simp [PyData.depth]) (by omega)
  simp only [h1, h2, PyData.eqv, Bool.and_self, if_true]
  rfl
theorem eqD_nonI {j : Int} : eqD .non (.int j) = some false := by
  unfold eqD D.py
  have h1 : SeqAt.shaped .none = true := shaped_of (n := 0) (by simp [PyData.canLay0]) (by simp [PyData.depth]) (by omega)
  have h2 : SeqAt.shaped (.int j) = true := shaped_of (n := 0) (by simp [PyData.canLay0]) (by simp [PyData.depth]) (by omega)
  simp only [h1, h2, PyData.eqv, Bool.and_self, if_true]
theorem eqD_nil {n : Nat} {xs : List D} (h : xs.all (pl n) = true) (hn : n < 64) : eqD (.lst xs) (.lst []) = some xs.isEmpty := by
  obtain ⟨ps, e, l, dd, hl⟩ := pyL_ok (pl_py n) xs h
  have e1 : (D.lst xs).py = some (.list ps) := by
    unfold D.py
    rw [e]
    rfl
  have e2 : (D.lst []).py = some (.list []) := by
    unfold D.py pyL
    rfl
  have h1 : SeqAt.shaped (.list ps) = true := shaped_of (n := n + 1) (by simp [PyData.canLay0, l]) (by simp only [PyData.depth]; omega) (by omega)
  have h2 : SeqAt.shaped (.list []) = true := shaped_of (n := 1) (by simp [PyData.canLay0, PyData.canLayAll0]) (by simp [PyData.depth, PyData.depthAll]) (by omega)
  unfold eqD
  rw [e1, e2]
  simp only [h1, h2, Bool.and_self, if_true, PyData.eqv]
  cases xs with
  | nil =>
    cases ps with
    | nil => simp [PyData.eqvAll]
    | cons _ _ => cases hl
  | cons _ _ =>
    cases ps with
    | nil => cases hl
    | cons _ _ => simp [PyData.eqvAll]
theorem inD_lst {n m : Nat} {x : D} {xs : List D} (hx : pl n x = true) (h : xs.all (pl m) = true) (hn : n ≤ 64) (hm : m < 64) : ∃ c, inD x (.lst xs) = some c := by
  obtain ⟨p, e, l, dd⟩ := pl_py n x hx
  obtain ⟨ps, e2, l2, dd2, _⟩ := pyL_ok (pl_py m) xs h
  have h2 : SeqAt.shaped (.list ps) = true := shaped_of (n := m + 1) (by simp [PyData.canLay0, l2]) (by simp only [PyData.depth]; omega) (by omega)
  unfold inD
  rw [e]
  simp only [e2]
  rw [shaped_of l dd hn, h2]
  exact ⟨_, rfl⟩
theorem cnt_ok {n m : Nat} {x : D} {xs : List D} (hx : pl n x = true) (h : xs.all (pl m) = true) (hn : n ≤ 64) (hm : m < 64) : ∃ k : Nat, semM .cnt (.lst xs) [x] = some (.int k) := by
  obtain ⟨p, e, l, dd⟩ := pl_py n x hx
  obtain ⟨ps, e2, l2, dd2, _⟩ := pyL_ok (pl_py m) xs h
  have h2 : SeqAt.shaped (.list ps) = true := shaped_of (n := m + 1) (by simp [PyData.canLay0, l2]) (by simp only [PyData.depth]; omega) (by omega)
  unfold semM
  simp only [e, e2]
  rw [shaped_of l dd hn, h2]
  exact ⟨_, rfl⟩
end Mini
namespace Mini
theorem all_int {n : Nat} : ∀ {l : List Int}, (l.map D.int).all (pl n) = true
  | [] => rfl
  | x :: l => by
    rw [List.map_cons, List.all_cons, all_int (l := l)]
    cases n <;> rfl
theorem ints_nil {l : List Int} : eqD (.lst (l.map .int)) (.lst []) = some l.isEmpty := by
  rw [eqD_nil (n := 0) all_int (by omega)]
  cases l <;> rfl
theorem rngD_cons {lo : Int} {n : Nat} : rngD lo (n + 1) = .int lo :: rngD (lo + 1) n := by
  unfold rngD
  rw [List.range_succ_eq_map, List.map_cons, List.map_map]
  congr 1
  · simp
  · refine List.map_congr_left fun k _ => ?_
    show D.int (lo + ((k + 1 : Nat) : Int)) = D.int (lo + 1 + (k : Int))
    congr 1
    omega
theorem rngD_zero {lo : Int} : rngD lo 0 = [] := rfl
/-- a loop over a range: I by the number to come and the state -/
theorem rng_loop {cl : Nat → List D → CO} {kn : Sl → Prop} {kr : D → Sl → Prop} {tg : List Nat} {un : Bool} {b : Ss} {lo : Int} {n : Nat} {s : Sl} (I : Nat → Sl → Prop) (h0 : I 0 s)
    (step : ∀ i s, i < n → I i s → oS (bindT tg un (.int (lo + i)) s) fun s1 => wSs cl b s1 (I (i + 1)) kr) (fin : ∀ s, I n s → kn s) :
    ForK cl tg un b kn kr (rngD lo n) s := by
  refine ⟨fun l s => ∃ i, i ≤ n ∧ l = rngD (lo + i) (n - i) ∧ I i s, ⟨0, Nat.zero_le _, by simp, h0⟩, ?_, ?_⟩
  · rintro d ds s ⟨i, hi, e, h⟩
    have hlt : i < n := by
      by_cases hh : i < n
      · exact hh
      · have : n - i = 0 := by omega
        rw [this, rngD_zero] at e
        cases e
    have e2 : n - i = (n - (i + 1)) + 1 := by omega
    rw [e2, rngD_cons] at e
    injection e with e3 e4
    subst e3 e4
    have h := step i s hlt h
    rw [oS_def] at h ⊢
    cases e5 : bindT tg un (.int (lo + i)) s with
    | none => rw [e5] at h; exact h.elim
    | some s1 =>
      rw [e5] at h
      show wSs cl b s1 _ kr
      have h : wSs cl b s1 (I (i + 1)) kr := h
      simp only [wSs_def] at h ⊢
      cases e6 : evSs cl b s1 with
      | nx s2 =>
        rw [e6] at h
        exact ⟨i + 1, hlt, by congr 1; omega, h⟩
      | rt d s2 => rw [e6] at h; exact h
      | _ => rw [e6] at h; exact h.elim
  · rintro s ⟨i, hi, e, h⟩
    have : i = n := by
      by_cases hh : i < n
      · have e2 : n - i = (n - (i + 1)) + 1 := by omega
        rw [e2, rngD_cons] at e
        cases e
      · omega
    subst this
    exact fin s h
/-- a loop over a list: I by what is done and what is to come -/
theorem seq_loop {cl : Nat → List D → CO} {kn : Sl → Prop} {kr : D → Sl → Prop} {tg : List Nat} {un : Bool} {b : Ss} {ds : List D} {s : Sl} (I : List D → Sl → Prop) (h0 : I ds s)
    (step : ∀ d ds s, I (d :: ds) s → oS (bindT tg un d s) fun s1 => wSs cl b s1 (I ds) kr) (fin : ∀ s, I [] s → kn s) :
    ForK cl tg un b kn kr ds s := ⟨I, h0, step, fin⟩
/-- a comprehension over a range that changes nothing: its items by f -/
theorem comp_rng {cl : Nat → List D → CO} {Q : D → Sl → Prop} {tg : List Nat} {un : Bool} {c : Option'} {e : E} {lo : Int} {n : Nat} {st1 : Sl} (I : Nat → List D → Sl → Prop) (h0 : I 0 [] (clear tg st1))
    (step : ∀ i acc s, i < n → I i acc s → oS (bindT tg un (.int (lo + i)) s) fun s1 => wK cl c s1 fun b s2 => if b = true then wE cl e s2 fun y s3 => I (i + 1) (acc ++ [y]) (clear tg s3) else I (i + 1) acc (clear tg s2))
    (fin : ∀ r s', I n r s' → r.length ≤ lim ∧ Q (.lst r) (back tg st1 s')) : CompK cl tg un c e Q (rngD lo n) st1 := by
  refine ⟨fun l acc s => ∃ i, i ≤ n ∧ l = rngD (lo + i) (n - i) ∧ I i acc s, ⟨0, Nat.zero_le _, by simp, h0⟩, ?_, ?_⟩
  · rintro d ds acc s ⟨i, hi, e0, h⟩
    have hlt : i < n := by
      by_cases hh : i < n
      · exact hh
      · have : n - i = 0 := by omega
        rw [this, rngD_zero] at e0
        cases e0
    have e2 : n - i = (n - (i + 1)) + 1 := by omega
    rw [e2, rngD_cons] at e0
    injection e0 with e3 e4
    subst e3 e4
    have h := step i acc s hlt h
    rw [oS_def] at h ⊢
    have nxt : ∀ {acc s}, I (i + 1) acc s → ∃ j, j ≤ n ∧ rngD (lo + (i : Int) + 1) (n - (i + 1)) = rngD (lo + (j : Nat)) (n - j) ∧ I j acc s := fun q => ⟨i + 1, hlt, by congr 1; omega, q⟩
    cases e5 : bindT tg un (.int (lo + i)) s with
    | none => rw [e5] at h; exact h.elim
    | some s1 =>
      rw [e5] at h
      show wK cl c s1 _
      have h : wK cl c s1 _ := h
      simp only [wK_def] at h ⊢
      cases e6 : evC cl c s1 with
      | ok b s2 =>
        rw [e6] at h
        cases b with
        | bl b =>
          have h : (if b = true then _ else _) := h
          show (if b = true then _ else _)
          cases b with
          | true =>
            rw [if_pos rfl] at h ⊢
            exact wE_mono h fun y s3 q => nxt q
          | false =>
            rw [if_neg Bool.false_ne_true] at h ⊢
            exact nxt h
        | _ => exact h.elim
      | _ => rw [e6] at h; exact h.elim
  · rintro r s ⟨i, hi, e0, h⟩
    have : i = n := by
      by_cases hh : i < n
      · have e2 : n - i = (n - (i + 1)) + 1 := by omega
        rw [e2, rngD_cons] at e0
        cases e0
      · omega
    subst this
    exact fin r s h
/-- a comprehension over a list: what it had, what is to come -/
theorem comp_seq {cl : Nat → List D → CO} {Q : D → Sl → Prop} {tg : List Nat} {un : Bool} {c : Option'} {e : E} {ds : List D} {st1 : Sl} (I : List D → List D → Sl → Prop) (h0 : I ds [] (clear tg st1))
    (step : ∀ d ds acc s, I (d :: ds) acc s → oS (bindT tg un d s) fun s1 => wK cl c s1 fun b s2 => if b = true then wE cl e s2 fun y s3 => I ds (acc ++ [y]) (clear tg s3) else I ds acc (clear tg s2))
    (fin : ∀ r s', I [] r s' → r.length ≤ lim ∧ Q (.lst r) (back tg st1 s')) : CompK cl tg un c e Q ds st1 := ⟨I, h0, step, fin⟩
end Mini

/-! Mini, the plain side: comprehensions that change nothing. -/
namespace Mini
section
variable {cl : Nat → List D → CO} {Q : D → Sl → Prop} {tg : List Nat} {un : Bool} {c : Option'} {e : E} {st1 : Sl} {α : Type}
theorem comp_fm (xs : List α) (inj : α → D) (p : α → Bool) (g : α → D) (hl : xs.length ≤ lim) (hb : ∀ x ∈ xs, oS (bindT tg un (inj x) (clear tg st1)) fun s1 => wK cl c s1 fun b s2 => b = p x ∧ if b = true then wE cl e s2 (fun y s3 => y = g x ∧ clear tg s3 = clear tg st1) else clear tg s2 = clear tg st1)
    (fin : Q (.lst ((xs.filter p).map g)) (back tg st1 (clear tg st1))) : CompK cl tg un c e Q (xs.map inj) st1 := by
  refine ⟨fun l acc s => ∃ dn rs, xs = dn ++ rs ∧ l = rs.map inj ∧ acc = (dn.filter p).map g ∧ s = clear tg st1, ⟨[], xs, rfl, rfl, rfl, rfl⟩, ?_, ?_⟩
  · rintro d ds acc s ⟨dn, rs, hx, e1, rfl, rfl⟩
    cases rs with
    | nil => cases e1
    | cons x rs =>
      rw [List.map_cons] at e1
      injection e1 with e2 e3
      subst e2 e3
      have h := hb x (by rw [hx]; exact List.mem_append_right _ List.mem_cons_self)
      rw [oS_def] at h ⊢
      cases e5 : bindT tg un (inj x) (clear tg st1) with
      | none => rw [e5] at h; exact h.elim
      | some s1 =>
        rw [e5] at h
        show wK cl c s1 _
        have h : wK cl c s1 _ := h
        simp only [wK_def] at h ⊢
        cases e6 : evC cl c s1 with
        | ok b s2 =>
          rw [e6] at h
          cases b with
          | bl b =>
            have h : b = p x ∧ (if b = true then _ else _) := h
            obtain ⟨h1, h2⟩ := h
            show (if b = true then _ else _)
            have hx2 : xs = (dn ++ [x]) ++ rs := by rw [hx, List.append_assoc]; rfl
            cases b with
            | true =>
              rw [if_pos rfl] at h2 ⊢
              refine wE_mono h2 fun y s3 ⟨e7, e8⟩ => ⟨dn ++ [x], rs, hx2, rfl, ?_, e8⟩
              rw [List.filter_append, List.filter_cons, if_pos h1.symm, List.map_append, e7]
              rfl
            | false =>
              rw [if_neg Bool.false_ne_true] at h2 ⊢
              refine ⟨dn ++ [x], rs, hx2, rfl, ?_, h2⟩
              rw [List.filter_append, List.filter_cons, if_neg (by rw [← h1]; exact Bool.false_ne_true), List.filter_nil, List.append_nil]
          | _ => exact h.elim
        | _ => rw [e6] at h; exact h.elim
  · rintro r s ⟨dn, rs, hx, e1, rfl, rfl⟩
    cases rs with
    | nil =>
      rw [List.append_nil] at hx
      subst hx
      refine ⟨?_, fin⟩
      rw [List.length_map]
      exact Nat.le_trans (List.length_filter_le _ _) hl
    | cons _ _ => cases e1
theorem comp_map (xs : List α) (inj : α → D) (g : α → D) (hl : xs.length ≤ lim) (hb : ∀ x ∈ xs, oS (bindT tg un (inj x) (clear tg st1)) fun s1 => wE cl e s1 fun y s3 => y = g x ∧ clear tg s3 = clear tg st1)
    (fin : Q (.lst (xs.map g)) (back tg st1 (clear tg st1))) : CompK cl tg un .none e Q (xs.map inj) st1 := by
  refine comp_fm xs inj (fun _ => true) g hl (fun x hx => ?_) (by rw [List.filter_eq_self.mpr fun _ _ => rfl]; exact fin)
  have h := hb x hx
  rw [oS_def] at h ⊢
  cases e5 : bindT tg un (inj x) (clear tg st1) with
  | none => rw [e5] at h; exact h
  | some s1 =>
    rw [e5] at h
    show wK cl .none s1 _
    rw [wK_none]
    exact ⟨rfl, by rw [if_pos rfl]; exact h⟩
end
/-- a range as a list of ints -/
def rg (lo : Int) (n : Nat) : List Int := (List.range n).map fun (k : Nat) => lo + (k : Int)
theorem rngD_rg {lo : Int} {n : Nat} : rngD lo n = (rg lo n).map D.int := by
  unfold rngD rg
  rw [List.map_map]
  rfl
theorem rg_len {lo : Int} {n : Nat} : (rg lo n).length = n := by
  unfold rg
  rw [List.length_map, List.length_range]
theorem rg_mem {lo : Int} {n : Nat} {x : Int} (h : x ∈ rg lo n) : lo ≤ x ∧ x < lo + n := by
  unfold rg at h
  obtain ⟨k, hk, rfl⟩ := List.mem_map.mp h
  have := List.mem_range.mp hk
  omega
theorem limE : lim = 1000000 := rfl
theorem all_prs {n : Nat} : ∀ {l : List (Int × Int)}, (l.map prD).all (pl (n + 1)) = true
  | [] => rfl
  | x :: l => by
    rw [List.map_cons, List.all_cons, all_prs (l := l)]
    cases n <;> rfl
theorem intsD_map : ∀ {l : List Int}, intsD (l.map .int) = some l
  | [] => rfl
  | x :: l => by
    show (intsD (l.map D.int)).map _ = _
    rw [intsD_map]
    rfl
theorem pairsD_map : ∀ {l : List (Int × Int)}, pairsD (l.map prD) = some l
  | [] => rfl
  | x :: l => by
    show (pairsD (l.map prD)).map _ = _
    rw [pairsD_map]
    rfl
theorem ins_len {α : Type} (le : α → α → Bool) (x : α) : ∀ l : List α, (ins le x l).length = l.length + 1
  | [] => rfl
  | y :: ys => by
    show (if le x y then x :: y :: ys else y :: ins le x ys).length = _
    split
    · rfl
    · rw [List.length_cons, ins_len le x ys]
      rfl
theorem isort_len {α : Type} (le : α → α → Bool) : ∀ l : List α, (isort le l).length = l.length
  | [] => rfl
  | y :: ys => by
    show (ins le y (isort le ys)).length = _
    rw [ins_len, isort_len le ys]
    rfl
theorem ins_mem {α : Type} (le : α → α → Bool) (x z : α) : ∀ l : List α, z ∈ ins le x l → z = x ∨ z ∈ l
  | [], h => .inl (List.mem_singleton.mp h)
  | y :: ys, h => by
    have h : z ∈ (if le x y then x :: y :: ys else y :: ins le x ys) := h
    split at h
    · rcases List.mem_cons.mp h with h | h
      · exact .inl h
      · exact .inr h
    · rcases List.mem_cons.mp h with h | h
      · exact .inr (by rw [h]; exact List.mem_cons_self)
      · rcases ins_mem le x z ys h with h | h
        · exact .inl h
        · exact .inr (List.mem_cons_of_mem _ h)
theorem isort_mem {α : Type} (le : α → α → Bool) (z : α) : ∀ l : List α, z ∈ isort le l → z ∈ l
  | [], h => h
  | y :: ys, h => by
    rcases ins_mem le y z _ h with h | h
    · rw [h]; exact List.mem_cons_self
    · exact List.mem_cons_of_mem _ (isort_mem le z ys h)
theorem sortD_ints {l : List Int} : sortD (l.map .int) = some ((isort leI l).map .int) := by
  unfold sortD
  rw [intsD_map]
theorem sortD_prs {l : List (Int × Int)} : sortD (l.map prD) = some ((isort leP l).map prD) := by
  unfold sortD
  cases l with
  | nil => rfl
  | cons x l =>
    have e : intsD ((x :: l).map prD) = none := rfl
    rw [e, pairsD_map]
end Mini

/-! Mini, the plain side: lists, counting; what == and in say. -/
namespace Mini
open PySem
theorem ins_prm {α : Type} (le : α → α → Bool) (x : α) : ∀ l : List α, (ins le x l).Perm (x :: l)
  | [] => .refl _
  | y :: ys => by
    show (if le x y then x :: y :: ys else y :: ins le x ys).Perm _
    split
    · exact .refl _
    · exact ((ins_prm le x ys).cons y).trans (.swap x y ys)
theorem isort_prm {α : Type} (le : α → α → Bool) : ∀ l : List α, (isort le l).Perm l
  | [] => .refl _
  | y :: ys => (ins_prm le y (isort le ys)).trans ((isort_prm le ys).cons y)
theorem nodup_sub {α : Type} [DecidableEq α] : ∀ {l m : List α}, l.Nodup → (∀ x ∈ l, x ∈ m) → l.length ≤ m.length
  | [], _, _, _ => Nat.zero_le _
  | x :: l, m, hn, hs => by
    obtain ⟨h1, h2⟩ := List.nodup_cons.mp hn
    have hx := hs x List.mem_cons_self
    have h3 : ∀ y ∈ l, y ∈ m.erase x := fun y hy => by
      refine (List.mem_erase_of_ne fun e => h1 (by rw [← e]; exact hy)).mpr (hs y (List.mem_cons_of_mem _ hy))
    have := nodup_sub h2 h3
    have e := List.length_erase_of_mem hx
    have : 0 < m.length := List.length_pos_of_mem hx
    rw [List.length_cons]
    omega
theorem nodup_map {α β : Type} {f : α → β} : ∀ {l : List α}, (∀ x ∈ l, ∀ y ∈ l, f x = f y → x = y) → l.Nodup → (l.map f).Nodup
  | [], _, _ => List.nodup_nil
  | x :: l, hi, hn => by
    obtain ⟨h1, h2⟩ := List.nodup_cons.mp hn
    rw [List.map_cons]
    refine List.nodup_cons.mpr ⟨fun h => ?_, nodup_map (fun a ha b hb => hi a (List.mem_cons_of_mem _ ha) b (List.mem_cons_of_mem _ hb)) h2⟩
    obtain ⟨y, hy, e⟩ := List.mem_map.mp h
    have := hi y (List.mem_cons_of_mem _ hy) x List.mem_cons_self e
    exact h1 (this ▸ hy)
theorem rg_nodup {lo : Int} {n : Nat} : (rg lo n).Nodup := by
  unfold rg
  refine nodup_map (fun x _ y _ e => ?_) List.nodup_range
  have : lo + (x : Int) = lo + (y : Int) := e
  omega
theorem mem_rg {lo : Int} {n : Nat} {x : Int} : x ∈ rg lo n ↔ lo ≤ x ∧ x < lo + n := by
  refine ⟨rg_mem, fun h => ?_⟩
  unfold rg
  exact List.mem_map.mpr ⟨(x - lo).toNat, List.mem_range.mpr (by omega), by omega⟩
/-! None or an int -/
def oD : Option Int → D
  | none => .non
  | some i => .int i
def oP : Option Int → PyData
  | none => .none
  | some i => .int i
theorem oD_py {o : Option Int} : (oD o).py = some (oP o) := by
  cases o <;> (unfold oD D.py; rfl)
theorem oP_lay {o : Option Int} : PyData.canLay0 (oP o) = true := by
  cases o <;> simp [oP, PyData.canLay0]
theorem oP_dep {o : Option Int} : PyData.depth (oP o) = 0 := by
  cases o <;> simp [oP, PyData.depth]
theorem oP_eqv {a b : Option Int} : PyData.eqv (oP a) (oP b) = decide (a = b) := by
  cases a <;> cases b <;> simp [oP, PyData.eqv]
  rename_i i j
  by_cases h : i = j <;> simp [h]
theorem oL_py : ∀ {l : List (Option Int)}, pyL (l.map oD) = some (l.map oP)
  | [] => by unfold pyL; rfl
  | x :: l => by
    rw [List.map_cons]
    unfold pyL
    rw [oD_py, oL_py]
    rfl
theorem oL_lay : ∀ {l : List (Option Int)}, PyData.canLayAll0 (l.map oP) = true
  | [] => by simp [PyData.canLayAll0]
  | x :: l => by
    rw [List.map_cons]
    simp only [PyData.canLayAll0, oP_lay, oL_lay, Bool.and_self]
theorem oL_dep : ∀ {l : List (Option Int)}, PyData.depthAll (l.map oP) = 0
  | [] => by simp [PyData.depthAll]
  | x :: l => by
    rw [List.map_cons]
    simp [PyData.depthAll, oP_dep, oL_dep]
theorem all_o {n : Nat} : ∀ {l : List (Option Int)}, (l.map oD).all (pl n) = true
  | [] => rfl
  | x :: l => by
    rw [List.map_cons, List.all_cons, all_o (l := l)]
    cases n <;> cases x <;> rfl
theorem eqD_o {a b : Option Int} : eqD (oD a) (oD b) = some (decide (a = b)) := by
  unfold eqD
  rw [oD_py, oD_py]
  simp only
  rw [shaped_of (n := 0) oP_lay (by rw [oP_dep]; omega) (by omega), shaped_of (n := 0) oP_lay (by rw [oP_dep]; omega) (by omega), oP_eqv]
  rfl
theorem cnt_o {l : List (Option Int)} {x : Int} : semM .cnt (.lst (l.map oD)) [.int x] = some (.int (l.countP fun o => decide (o = some x) : Nat)) := by
  have e : (D.int x).py = some (oP (some x)) := oD_py (o := some x)
  unfold semM
  simp only [oL_py, e]
  have h1 : SeqAt.shaped (.list (l.map oP)) = true := shaped_of (n := 1) (by simp only [PyData.canLay0]; exact oL_lay) (by simp only [PyData.depth, oL_dep]; omega) (by omega)
  have h2 : SeqAt.shaped (oP (some x)) = true := shaped_of (n := 0) oP_lay (by rw [oP_dep]; omega) (by omega)
  rw [h1, h2]
  simp only [Bool.and_self, if_true]
  rw [List.countP_map]
  congr 4
  funext o
  exact oP_eqv
/-! pairs -/
def pP (p : Int × Int) : PyData := .tuple [.int p.1, .int p.2]
theorem prD_py {p : Int × Int} : (prD p).py = some (pP p) := by
  unfold prD D.py
  have : pyL [D.int p.1, D.int p.2] = some [.int p.1, .int p.2] := by
    unfold pyL
    have h1 : (D.int p.1).py = some (.int p.1) := by unfold D.py; rfl
    have h2 : pyL [D.int p.2] = some [.int p.2] := by
      unfold pyL
      have h1 : (D.int p.2).py = some (.int p.2) := by unfold D.py; rfl
      have h3 : pyL [] = some [] := by unfold pyL; rfl
      rw [h1, h3]
    rw [h1, h2]
  rw [this]
  rfl
theorem prL_py : ∀ {l : List (Int × Int)}, pyL (l.map prD) = some (l.map pP)
  | [] => by unfold pyL; rfl
  | x :: l => by
    rw [List.map_cons]
    unfold pyL
    rw [prD_py, prL_py]
    rfl
theorem pP_lay {p : Int × Int} : PyData.canLay0 (pP p) = true := by simp [pP, PyData.canLay0, PyData.canLayAll0]
theorem pP_dep {p : Int × Int} : PyData.depth (pP p) ≤ 1 := by simp [pP, PyData.depth, PyData.depthAll]
theorem pL_lay : ∀ {l : List (Int × Int)}, PyData.canLayAll0 (l.map pP) = true
  | [] => by simp [PyData.canLayAll0]
  | x :: l => by
    rw [List.map_cons]
    simp only [PyData.canLayAll0, pP_lay, pL_lay, Bool.and_self]
theorem pL_dep : ∀ {l : List (Int × Int)}, PyData.depthAll (l.map pP) ≤ 1
  | [] => by simp [PyData.depthAll]
  | x :: l => by
    rw [List.map_cons]
    have h1 := pP_dep (p := x)
    have h2 := pL_dep (l := l)
    simp only [PyData.depthAll]
    omega
theorem pP_eqv {p q : Int × Int} : PyData.eqv (pP p) (pP q) = decide (p = q) := by
  obtain ⟨a, b⟩ := p
  obtain ⟨c, d⟩ := q
  simp only [pP, PyData.eqv, PyData.eqvAll, Bool.and_true]
  by_cases h1 : a = c <;> by_cases h2 : b = d <;> simp [h1, h2]
theorem in_prs {p : Int × Int} {l : List (Int × Int)} : inD (prD p) (.lst (l.map prD)) = some (decide (p ∈ l)) := by
  unfold inD
  rw [prD_py]
  simp only [prL_py]
  have h1 : SeqAt.shaped (.list (l.map pP)) = true := by
    have := pL_dep (l := l)
    exact shaped_of (n := 2) (by simp only [PyData.canLay0]; exact pL_lay) (by simp only [PyData.depth]; omega) (by omega)
  have h2 : SeqAt.shaped (pP p) = true := shaped_of (n := 1) pP_lay pP_dep (by omega)
  rw [h1, h2]
  simp only [Bool.and_self, if_true]
  congr 1
  rw [List.any_map]
  rw [Bool.eq_iff_iff]
  simp only [List.any_eq_true, decide_eq_true_eq, Function.comp]
  refine ⟨fun ⟨q, hq, e⟩ => ?_, fun h => ⟨p, h, by rw [pP_eqv]; exact decide_eq_true rfl⟩⟩
  rw [pP_eqv] at e
  have := of_decide_eq_true e
  subst this
  exact hq
end Mini

/-! Mini, the plain side: nets whose ties balance. -/
namespace Mini
def Hlf (many : Int) (ps : List (Int × Int)) : Prop := ps.Nodup ∧ ∀ p ∈ ps, 0 ≤ p.1 ∧ p.1 < p.2 ∧ p.2 < many
def Bal (many : Int) (E : List (Int × Int)) : Prop := E.Nodup ∧ (∀ p ∈ E, (0 ≤ p.1 ∧ p.1 < many) ∧ (0 ≤ p.2 ∧ p.2 < many)) ∧ ∀ g : Int, E.countP (fun p => decide (p.1 = g)) = E.countP (fun p => decide (p.2 = g))
theorem Hlf.nil {many : Int} : Hlf many [] := ⟨List.nodup_nil, fun _ h => nomatch h⟩
theorem Hlf.weak {m k : Int} {ps : List (Int × Int)} (h : Hlf m ps) (hk : m ≤ k) : Hlf k ps := ⟨h.1, fun p hp => by
  have := h.2 p hp
  omega⟩
theorem Hlf.snoc {many x y : Int} {ps : List (Int × Int)} (h : Hlf many ps) (hn : (x, y) ∉ ps) (h0 : 0 ≤ x) (h1 : x < y) (h2 : y < many) : Hlf many (ps ++ [(x, y)]) := by
  refine ⟨List.nodup_append.mpr ⟨h.1, by simp, fun a ha b hb e => ?_⟩, fun p hp => ?_⟩
  · rw [List.mem_singleton.mp hb] at e
    exact hn (e ▸ ha)
  · rcases List.mem_append.mp hp with hp | hp
    · exact h.2 p hp
    · rw [List.mem_singleton.mp hp]
      exact ⟨h0, h1, h2⟩
theorem Bal.perm {many : Int} {E E' : List (Int × Int)} (h : Bal many E) (p : E'.Perm E) : Bal many E' :=
  ⟨p.nodup_iff.mpr h.1, fun q hq => h.2.1 q (p.mem_iff.mp hq), fun g => by rw [p.countP_eq, p.countP_eq, h.2.2 g]⟩
theorem Hlf.both {many : Int} {ps : List (Int × Int)} (h : Hlf many ps) : Bal many (ps ++ ps.map fun p => (p.2, p.1)) := by
  refine ⟨List.nodup_append.mpr ⟨h.1, nodup_map (fun x _ y _ e => ?_) h.1, fun a ha b hb e => ?_⟩, fun p hp => ?_, fun g => ?_⟩
  · injection e with e1 e2
    exact Prod.ext e2 e1
  · obtain ⟨q, hq, rfl⟩ := List.mem_map.mp hb
    have h1 := h.2 a ha
    have h2 := h.2 q hq
    rw [e] at h1
    simp only at h1
    omega
  · rcases List.mem_append.mp hp with hp | hp
    · have := h.2 p hp
      omega
    · obtain ⟨q, hq, rfl⟩ := List.mem_map.mp hp
      have := h.2 q hq
      simp only
      omega
  · rw [List.countP_append, List.countP_append, List.countP_map, List.countP_map, Nat.add_comm]
    rfl
theorem Bal.add {many : Int} {E E' : List (Int × Int)} (h : Bal many E) (h' : Bal many E') (hd : ∀ p ∈ E', p ∉ E) : Bal many (E ++ E') := by
  refine ⟨List.nodup_append.mpr ⟨h.1, h'.1, fun a ha b hb e => hd b hb (e ▸ ha)⟩, fun p hp => ?_, fun g => ?_⟩
  · rcases List.mem_append.mp hp with hp | hp
    · exact h.2.1 p hp
    · exact h'.2.1 p hp
  · rw [List.countP_append, List.countP_append, h.2.2 g, h'.2.2 g]
theorem of_map_nodup {α β : Type} {f : α → β} : ∀ {l : List α}, (l.map f).Nodup → l.Nodup
  | [], _ => List.nodup_nil
  | x :: l, h => by
    rw [List.map_cons] at h
    obtain ⟨h1, h2⟩ := List.nodup_cons.mp h
    exact List.nodup_cons.mpr ⟨fun hx => h1 (List.mem_map.mpr ⟨x, hx, rfl⟩), of_map_nodup h2⟩
/-! boxes -/
def Lay (m B : Int) (ly : List (Int × Int)) : Prop := ly.Nodup ∧ ∀ p ∈ ly, 0 ≤ p.1 ∧ p.1 < p.2 ∧ p.2 < B ∧ p.2 < p.1 + m
theorem Lay.nil {m B : Int} : Lay m B [] := ⟨List.nodup_nil, fun _ h => nomatch h⟩
theorem Lay.more {m B : Int} {ps ly : List (Int × Int)} (hl : Lay m B ly) (hp : Hlf m ps) (h0 : 0 ≤ B) : Lay m (B + m) (ly ++ ps.map fun p => (p.1 + B, p.2 + B)) := by
  refine ⟨List.nodup_append.mpr ⟨hl.1, nodup_map (fun x _ y _ e => ?_) hp.1, fun a ha b hb e => ?_⟩, fun p h => ?_⟩
  · injection e with e1 e2
    exact Prod.ext (by omega) (by omega)
  · obtain ⟨q, hq, rfl⟩ := List.mem_map.mp hb
    have h1 := hl.2 a ha
    have h2 := hp.2 q hq
    rw [e] at h1
    simp only at h1
    omega
  · rcases List.mem_append.mp h with h | h
    · have h1 := hl.2 p h
      have : 0 ≤ m := by omega
      omega
    · obtain ⟨q, hq, rfl⟩ := List.mem_map.mp h
      have h2 := hp.2 q hq
      simp only
      omega
theorem Lay.last {m B : Int} {ly : List (Int × Int)} {n : Nat} (hl : Lay m B ly) (hm : 1 ≤ m) (hn : (n : Int) = B - m) : Hlf B (ly ++ (rg 0 n).map fun h => (h, h + m)) := by
  refine ⟨List.nodup_append.mpr ⟨hl.1, nodup_map (fun x _ y _ e => ?_) rg_nodup, fun a ha b hb e => ?_⟩, fun p h => ?_⟩
  · injection e
  · obtain ⟨q, hq, rfl⟩ := List.mem_map.mp hb
    have h1 := hl.2 a ha
    rw [e] at h1
    simp only at h1
    omega
  · rcases List.mem_append.mp h with h | h
    · have h1 := hl.2 p h
      omega
    · obtain ⟨q, hq, rfl⟩ := List.mem_map.mp h
      have h2 := rg_mem hq
      simp only
      omega
/-! directed cycles -/
def pv (row : List Int) (x : Int) : Int := match atD (row.map .int) (x - 1) with
  | some (.int v) => v
  | _ => 0
theorem at_ints' {t : List Int} {x : Int} (h0 : 0 ≤ x) (h : x < t.length) : atD (t.map .int) x = some (.int (t.getD x.toNat 0)) := by
  refine atD_int h0 ?_
  rw [List.getElem?_map, List.getD_eq_getElem?_getD]
  have : x.toNat < t.length := by omega
  rw [List.getElem?_eq_getElem this]
  rfl
theorem at_last {row : List Int} (hne : row ≠ []) : atD (row.map .int) (0 - 1) = some (.int (row.getLast hne)) := by
  refine atD_neg ?_
  rw [List.getLast?_map, List.getLast?_eq_some_getLast hne]
  rfl
theorem at_pv {row : List Int} {x : Int} (h0 : 0 ≤ x) (h1 : x < row.length) : atD (row.map .int) (x - 1) = some (.int (pv row x)) := by
  have key : ∃ v, atD (row.map .int) (x - 1) = some (.int v) := by
    by_cases hx : x = 0
    · subst hx
      have hne : row ≠ [] := fun e => by rw [e] at h1; simp at h1
      exact ⟨_, at_last hne⟩
    · exact ⟨_, at_ints' (by omega) (by omega)⟩
  obtain ⟨v, hv⟩ := key
  unfold pv
  rw [hv]
theorem rg_succ {n : Nat} : rg 0 (n + 1) = 0 :: (rg 0 n).map (· + 1) := by
  unfold rg
  rw [List.range_succ_eq_map, List.map_cons, List.map_map, List.map_map]
  have e : ((fun (k : Nat) => (0 : Int) + (k : Int)) ∘ Nat.succ) = ((fun x => x + 1) ∘ fun (k : Nat) => (0 : Int) + (k : Int)) := by
    funext k
    show (0 : Int) + ((k + 1 : Nat) : Int) = 0 + (k : Int) + 1
    omega
  rw [e]
  rfl
theorem rg_getD : ∀ {row : List Int}, (rg 0 row.length).map (fun x => row.getD x.toNat 0) = row
  | [] => rfl
  | a :: row => by
    rw [List.length_cons, rg_succ, List.map_cons, List.map_map]
    congr 1
    refine Eq.trans (List.map_congr_left fun x hx => ?_) (rg_getD (row := row))
    have := rg_mem hx
    show (a :: row).getD (x + 1).toNat 0 = row.getD x.toNat 0
    have e : (x + 1).toNat = x.toNat + 1 := by omega
    rw [e]
    rfl
theorem rg_take : ∀ {row : List Int} {n : Nat}, n ≤ row.length → (rg 0 n).map (fun x => row.getD x.toNat 0) = row.take n
  | _, 0, _ => rfl
  | [], n + 1, h => by simp at h
  | a :: row, n + 1, h => by
    rw [rg_succ, List.map_cons, List.map_map, List.take_succ_cons]
    congr 1
    refine Eq.trans (List.map_congr_left fun x hx => ?_) (rg_take (row := row) (n := n) (by simpa using h))
    have := rg_mem hx
    show (a :: row).getD (x + 1).toNat 0 = row.getD x.toNat 0
    have e : (x + 1).toNat = x.toNat + 1 := by omega
    rw [e]
    rfl
theorem cyc_bal {many : Int} {row : List Int} (hne : row ≠ []) (hn : row.Nodup) (hr : ∀ x ∈ row, 0 ≤ x ∧ x < many) : Bal many ((rg 0 row.length).map fun x => (pv row x, row.getD x.toNat 0)) := by
  generalize hC : ((rg 0 row.length).map fun x => (pv row x, row.getD x.toNat 0)) = C
  have e2 : C.map (·.2) = row := by
    rw [← hC, List.map_map]
    exact rg_getD
  have e1 : (C.map (·.1)).Perm row := by
    rw [← hC, List.map_map]
    have hl : row.length = (row.length - 1) + 1 := by
      have := List.length_pos_iff.mpr hne
      omega
    have : ((rg 0 row.length).map fun x => pv row x) = row.getLast hne :: row.dropLast := by
      rw [hl, rg_succ, List.map_cons, List.map_map]
      congr 1
      · unfold pv
        rw [at_last hne]
      · rw [List.dropLast_eq_take, ← rg_take (by omega)]
        refine List.map_congr_left fun x hx => ?_
        have := rg_mem hx
        show pv row (x + 1) = _
        have e : x + 1 - 1 = x := by omega
        unfold pv
        rw [e, at_ints' (by omega) (by omega)]
    show ((rg 0 row.length).map fun x => pv row x).Perm row
    rw [this]
    have e3 : row = row.dropLast ++ [row.getLast hne] := (List.dropLast_concat_getLast hne).symm
    conv => rhs; rw [e3]
    exact (List.perm_append_comm (l₁ := [row.getLast hne]) (l₂ := row.dropLast))
  refine ⟨?_, fun p hp => ⟨?_, ?_⟩, fun g => ?_⟩
  · have : (C.map (·.2)).Nodup := by rw [e2]; exact hn
    exact of_map_nodup this
  · exact hr _ (e1.mem_iff.mp (List.mem_map.mpr ⟨p, hp, rfl⟩))
  · refine hr _ ?_
    rw [← e2]
    exact List.mem_map.mpr ⟨p, hp, rfl⟩
  · have c1 : C.countP (fun p => decide (p.1 = g)) = (C.map (·.1)).countP (fun x => decide (x = g)) := by
      rw [List.countP_map]
      rfl
    have c2 : C.countP (fun p => decide (p.2 = g)) = (C.map (·.2)).countP (fun x => decide (x = g)) := by
      rw [List.countP_map]
      rfl
    rw [c1, c2, e2, e1.countP_eq]
end Mini
namespace Mini
theorem Hlf.row {k : Int} {n : Nat} {qs : List (Int × Int)} (h : Hlf k qs) (hn : (n : Int) ≤ k) : Hlf (k + 1) (qs ++ (rg 0 n).map fun x => (x, k)) := by
  refine ⟨List.nodup_append.mpr ⟨h.1, nodup_map (fun x _ y _ e => ?_) rg_nodup, fun a ha b hb e => ?_⟩, fun p hp => ?_⟩
  · injection e
  · obtain ⟨q, hq, rfl⟩ := List.mem_map.mp hb
    have h1 := h.2 a ha
    rw [e] at h1
    simp only at h1
    omega
  · rcases List.mem_append.mp hp with hp | hp
    · have := h.2 p hp
      omega
    · obtain ⟨q, hq, rfl⟩ := List.mem_map.mp hp
      have := rg_mem hq
      simp only
      omega
theorem Hlf.ring {m : Int} {n : Nat} (hm : 3 ≤ m) (hn : (n : Int) = m - 1) : Hlf m ((rg 0 n).map (fun x => (x, x + 1)) ++ [(0, m - 1)]) := by
  have h1 : Hlf m ((rg 0 n).map fun x => (x, x + 1)) := by
    refine ⟨nodup_map (fun x _ y _ e => ?_) rg_nodup, fun p hp => ?_⟩
    · injection e
    · obtain ⟨q, hq, rfl⟩ := List.mem_map.mp hp
      have := rg_mem hq
      simp only
      omega
  refine h1.snoc (fun z => ?_) (by omega) (by omega) (by omega)
  obtain ⟨q, hq, e⟩ := List.mem_map.mp z
  injection e with e1 e2
  omega
end Mini

namespace Lk51
open PySem PySem.Spec PyProof.Rows L2 Mini
def f0 : FD := ⟨"stepped", ["homes", "stand", "handing", "found", "house", "goes", "home"], [.fz, .fz, .fz, (.lst .fz), .fz, .fz, .fz], 3, .fz,
    (.cons (.set 3 (.op (.mkL .fz) .nil))
    (.cons (.for_ [4, 5, 6] true (.zip (.cons (.var 1) (.cons (.var 2) (.cons (.var 0) .nil))))
    (.cons (.ite (.or_ (.op .isN (.cons (.var 4) .nil)) (.op .eq (.cons (.var 5) (.cons (.var 6) .nil))))
    (.cons (.smt .append 3 (.cons (.cst .non) .nil))
    .nil)
    (.cons (.smt .append 3 (.cons (.var 5) .nil))
    .nil))
    .nil))
    (.cons (.ret (.op .tuple (.cons (.var 3) .nil)))
    .nil)))⟩
def f1 : FD := ⟨"stands_of", ["homes", "stand", "log", "found", "handing"], [.fz, .fz, (.lst .fz), (.lst .fz), .fz], 3, (.lst .fz),
    (.cons (.set 3 (.op (.mkL .fz) (.cons (.op .tuple (.cons (.var 1) .nil)) .nil)))
    (.cons (.for_ [4] false (.seq (.var 2))
    (.cons (.smt .append 3 (.cons (.call 0 (.cons (.var 0) (.cons (.op .ix (.cons (.var 3) (.cons (.op .neg (.cons (.cst (.int 1)) .nil)) .nil))) (.cons (.var 4) .nil)))) .nil))
    .nil))
    (.cons (.ret (.mv 3))
    .nil)))⟩
def f2 : FD := ⟨"_law_pot", ["_law_script", "_law_k", "_law_cell", "_law_first"], [.fz, .fz, .fz, .fz], 2, (.lst .fz),
    (.cons (.set 2 (.cst (.int 0)))
    (.cons (.ite (.op .lt (.cons (.var 1) (.cons (.op .len (.cons (.var 0) .nil)) .nil)))
    (.cons (.set 2 (.op .abs (.cons (.op .ix (.cons (.var 0) (.cons (.var 1) .nil))) .nil)))
    .nil)
    .nil)
    (.cons (.set 3 (.op .addI (.cons (.op .addI (.cons (.op .mod (.cons (.var 2) (.cons (.cst (.int 2147483629)) .nil))) (.cons (.op .mulI (.cons (.cst (.int 331)) (.cons (.var 1) .nil))) .nil))) (.cons (.cst (.int 1)) .nil))))
    (.cons (.ret (.op (.mkL .fz) (.cons (.op .max2 (.cons (.cst (.int 0)) (.cons (.op .sub (.cons (.var 2) (.cons (.op .pow (.cons (.cst (.int 10)) (.cons (.cst (.int 18)) .nil))) .nil))) .nil))) (.cons (.var 3) (.cons (.op .addI (.cons (.op .addI (.cons (.op .mod (.cons (.op .fdiv (.cons (.var 2) (.cons (.cst (.int 2147483629)) .nil))) (.cons (.cst (.int 2147483587)) .nil))) (.cons (.op .mulI (.cons (.cst (.int 97)) (.cons (.var 1) .nil))) .nil))) (.cons (.cst (.int 5)) .nil))) .nil)))))
    .nil))))⟩
def f3 : FD := ⟨"_law_take", ["_law_pot_here", "_law_many", "_law_digit"], [(.lst .fz), .fz, .fz], 2, .fz,
    (.cons (.ite (.op .gt (.cons (.op .ix (.cons (.var 0) (.cons (.cst (.int 0)) .nil))) (.cons (.cst (.int 0)) .nil)))
    (.cons (.set 2 (.op .mod (.cons (.op .ix (.cons (.var 0) (.cons (.cst (.int 0)) .nil))) (.cons (.var 1) .nil))))
    (.cons (.sidx 0 (.cst (.int 0)) (.op .fdiv (.cons (.op .ix (.cons (.var 0) (.cons (.cst (.int 0)) .nil))) (.cons (.var 1) .nil))))
    (.cons (.ret (.var 2))
    .nil)))
    .nil)
    (.cons (.sidx 0 (.cst (.int 1)) (.op .mod (.cons (.op .addI (.cons (.op .mulI (.cons (.op .ix (.cons (.var 0) (.cons (.cst (.int 1)) .nil))) (.cons (.cst (.int 48271)) .nil))) (.cons (.cst (.int 11)) .nil))) (.cons (.cst (.int 2147483647)) .nil))))
    (.cons (.sidx 0 (.cst (.int 2)) (.op .mod (.cons (.op .addI (.cons (.op .mulI (.cons (.op .ix (.cons (.var 0) (.cons (.cst (.int 2)) .nil))) (.cons (.cst (.int 39373)) .nil))) (.cons (.cst (.int 17)) .nil))) (.cons (.cst (.int 2147483579)) .nil))))
    (.cons (.ret (.op .mod (.cons (.op .fdiv (.cons (.op .mod (.cons (.op .addI (.cons (.op .mulI (.cons (.op .ix (.cons (.var 0) (.cons (.cst (.int 1)) .nil))) (.cons (.op .ix (.cons (.var 0) (.cons (.cst (.int 2)) .nil))) .nil))) (.cons (.op .mulI (.cons (.op .ix (.cons (.var 0) (.cons (.cst (.int 1)) .nil))) (.cons (.op .ix (.cons (.var 0) (.cons (.cst (.int 1)) .nil))) .nil))) .nil))) (.cons (.cst (.int 2147483563)) .nil))) (.cons (.cst (.int 13)) .nil))) (.cons (.var 1) .nil))))
    .nil))))⟩
def f4 : FD := ⟨"_law_sides", ["_law_pot_here", "_law_sides_here", "_law_area", "_law_k"], [(.lst .fz), (.lst .fz), .fz, .fz], 1, .fz,
    (.cons (.set 1 (.op (.mkL .fz) .nil))
    (.cons (.set 2 (.cst (.int 1)))
    (.cons (.for_ [3] false (.rng1 (.cst (.int 5)))
    (.cons (.ite (.and_ (.op .le (.cons (.var 2) (.cons (.cst (.int 16)) .nil))) (.or_ (.op .eq (.cons (.var 1) (.cons (.op (.mkL .fz) .nil) .nil))) (.op .gt (.cons (.call 3 (.cons (.rf 0) (.cons (.cst (.int 4)) .nil))) (.cons (.cst (.int 0)) .nil)))))
    (.cons (.smt .append 1 (.cons (.op .addI (.cons (.cst (.int 2)) (.cons (.call 3 (.cons (.rf 0) (.cons (.op .min2 (.cons (.cst (.int 7)) (.cons (.op .sub (.cons (.op .fdiv (.cons (.cst (.int 32)) (.cons (.var 2) .nil))) (.cons (.cst (.int 1)) .nil))) .nil))) .nil))) .nil))) .nil))
    (.cons (.set 2 (.op .mulI (.cons (.var 2) (.cons (.op .ix (.cons (.var 1) (.cons (.op .neg (.cons (.cst (.int 1)) .nil)) .nil))) .nil))))
    .nil))
    .nil)
    .nil))
    (.cons (.ret (.op .tuple (.cons (.var 1) .nil)))
    .nil))))⟩
def f5 : FD := ⟨"_law_box_pairs", ["_law_sides_here", "_law_many", "_law_pairs", "_law_side", "_law_layers", "_law_k", "_law_house", "_law_one", "_law_other"], [.fz, .fz, .fz, .fz, .fz, .fz, .fz, .fz, .fz], 1, .fz,
    (.cons (.set 1 (.cst (.int 1)))
    (.cons (.set 2 (.frz (.op (.mkL .fz) .nil)))
    (.cons (.for_ [3] false (.seq (.var 0))
    (.cons (.set 4 (.frz (.op (.mkL .fz) .nil)))
    (.cons (.for_ [5] false (.rng1 (.var 3))
    (.cons (.set 4 (.frz (.op .cat (.cons (.var 4) (.cons (.comp .fz [7, 8] true (.seq (.var 2)) .none (.op (.mkT .fz) (.cons (.op .addI (.cons (.var 7) (.cons (.op .mulI (.cons (.var 1) (.cons (.var 5) .nil))) .nil))) (.cons (.op .addI (.cons (.var 8) (.cons (.op .mulI (.cons (.var 1) (.cons (.var 5) .nil))) .nil))) .nil)))) .nil)))))
    .nil))
    (.cons (.set 2 (.frz (.op .cat (.cons (.var 4) (.cons (.comp .fz [6] false (.rng1 (.op .mulI (.cons (.var 1) (.cons (.op .sub (.cons (.var 3) (.cons (.cst (.int 1)) .nil))) .nil)))) .none (.op (.mkT .fz) (.cons (.var 6) (.cons (.op .addI (.cons (.var 6) (.cons (.var 1) .nil))) .nil)))) .nil)))))
    (.cons (.set 1 (.op .mulI (.cons (.var 1) (.cons (.var 3) .nil))))
    .nil)))))
    (.cons (.ret (.op (.mkT .fz) (.cons (.var 1) (.cons (.var 2) .nil))))
    .nil))))⟩
def f6 : FD := ⟨"_law_tree_pairs", ["_law_pot_here", "_law_many", "_law_pairs", "_law_tied", "_law_house", "_law_some", "_law_other"], [(.lst .fz), .fz, (.lst .fz), (.lst .fz), .fz, .fz, .fz], 2, .fz,
    (.cons (.set 2 (.op (.mkL .fz) .nil))
    (.cons (.set 3 (.op .rep (.cons (.op (.mkL .fz) (.cons (.cst (.int 0)) .nil)) (.cons (.var 1) .nil))))
    (.cons (.for_ [4] false (.rng2 (.cst (.int 1)) (.var 1))
    (.cons (.set 5 (.frz (.comp .fz [6] false (.rng1 (.var 4)) (.some (.op .lt (.cons (.op .ix (.cons (.var 3) (.cons (.var 6) .nil))) (.cons (.cst (.int 7)) .nil)))) (.var 6))))
    (.cons (.set 6 (.op .ix (.cons (.var 5) (.cons (.call 3 (.cons (.rf 0) (.cons (.op .len (.cons (.var 5) .nil)) .nil))) .nil))))
    (.cons (.smt .append 2 (.cons (.op (.mkT .fz) (.cons (.var 6) (.cons (.var 4) .nil))) .nil))
    (.cons (.sidx 3 (.var 6) (.op .addI (.cons (.op .ix (.cons (.var 3) (.cons (.var 6) .nil))) (.cons (.cst (.int 1)) .nil))))
    (.cons (.sidx 3 (.var 4) (.op .addI (.cons (.op .ix (.cons (.var 3) (.cons (.var 4) .nil))) (.cons (.cst (.int 1)) .nil))))
    .nil))))))
    (.cons (.ret (.frz (.mv 2)))
    .nil))))⟩
def f7 : FD := ⟨"_law_more_pairs", ["_law_pot_here", "_law_many", "_law_pairs", "_law_found", "_law_k", "_law_tied", "_law_one", "_law_other", "_law_pair"], [(.lst .fz), .fz, .fz, (.lst .fz), .fz, .fz, .fz, .fz, .fz], 3, .fz,
    (.cons (.set 3 (.op .list (.cons (.var 2) .nil)))
    (.cons (.for_ [4] false (.rng1 (.call 3 (.cons (.rf 0) (.cons (.cst (.int 12)) .nil))))
    (.cons (.unp true [6, 7] (.op .sorted (.cons (.op (.mkL .fz) (.cons (.call 3 (.cons (.rf 0) (.cons (.var 1) .nil))) (.cons (.call 3 (.cons (.rf 0) (.cons (.var 1) .nil))) .nil))) .nil)))
    (.cons (.set 5 (.frz (.op .cat (.cons (.comp .fz [8] false (.seq (.var 3)) .none (.op .ix (.cons (.var 8) (.cons (.cst (.int 0)) .nil)))) (.cons (.comp .fz [8] false (.seq (.var 3)) .none (.op .ix (.cons (.var 8) (.cons (.cst (.int 1)) .nil)))) .nil)))))
    (.cons (.ite (.and_ (.op .lt (.cons (.var 6) (.cons (.var 7) .nil))) (.and_ (.op .ni (.cons (.op (.mkT .fz) (.cons (.var 6) (.cons (.var 7) .nil))) (.cons (.var 3) .nil))) (.op .lt (.cons (.op .max2 (.cons (.bm .cnt (.var 5) (.cons (.var 6) .nil)) (.cons (.bm .cnt (.var 5) (.cons (.var 7) .nil)) .nil))) (.cons (.cst (.int 8)) .nil)))))
    (.cons (.smt .append 3 (.cons (.op (.mkT .fz) (.cons (.var 6) (.cons (.var 7) .nil))) .nil))
    .nil)
    .nil)
    .nil))))
    (.cons (.ret (.frz (.mv 3)))
    .nil)))⟩
def f8 : FD := ⟨"_law_cycle", ["_law_pot_here", "_law_many", "_law_size", "_law_rest", "_law_row", "_law_k"], [(.lst .fz), .fz, .fz, (.lst .fz), .fz, .fz], 3, .fz,
    (.cons (.set 3 (.op .rngL (.cons (.var 1) .nil)))
    (.cons (.set 4 (.frz (.comp .fz [5] false (.rng1 (.var 2)) .none (.pop 3 (.call 3 (.cons (.rf 0) (.cons (.op .len (.cons (.var 3) .nil)) .nil)))))))
    (.cons (.ret (.frz (.comp .fz [5] false (.rng1 (.var 2)) .none (.op (.mkT .fz) (.cons (.op .ix (.cons (.var 4) (.cons (.op .sub (.cons (.var 5) (.cons (.cst (.int 1)) .nil))) .nil))) (.cons (.op .ix (.cons (.var 4) (.cons (.var 5) .nil))) .nil))))))
    .nil)))⟩
def f9 : FD := ⟨"_law_one_way", ["_law_pot_here", "_law_many", "_law_ties", "_law_k", "_law_more", "_law_tie"], [(.lst .fz), .fz, .fz, .fz, .fz, .fz], 2, .fz,
    (.cons (.set 2 (.call 8 (.cons (.rf 0) (.cons (.var 1) (.cons (.var 1) .nil)))))
    (.cons (.for_ [3] false (.rng1 (.call 3 (.cons (.rf 0) (.cons (.cst (.int 6)) .nil))))
    (.cons (.set 4 (.call 8 (.cons (.rf 0) (.cons (.var 1) (.cons (.op .addI (.cons (.cst (.int 2)) (.cons (.call 3 (.cons (.rf 0) (.cons (.op .sub (.cons (.var 1) (.cons (.cst (.int 1)) .nil))) .nil))) .nil))) .nil)))))
    (.cons (.ite (.op .eq (.cons (.comp .fz [5] false (.seq (.var 4)) (.some (.op .in_ (.cons (.var 5) (.cons (.var 2) .nil)))) (.var 5)) (.cons (.op (.mkL .fz) .nil) .nil)))
    (.cons (.set 2 (.frz (.op .cat (.cons (.var 2) (.cons (.var 4) .nil)))))
    .nil)
    .nil)
    .nil)))
    (.cons (.ret (.frz (.op .sorted (.cons (.var 2) .nil))))
    .nil)))⟩
def f10 : FD := ⟨"_law_net", ["_law_pot_here", "_law_way", "_law_many", "_law_pairs", "_law_other", "_law_house", "_law_one"], [(.lst .fz), .fz, .fz, .fz, .fz, .fz, .fz], 1, .fz,
    (.cons (.set 1 (.call 3 (.cons (.rf 0) (.cons (.cst (.int 7)) .nil))))
    (.cons (.set 2 (.op .addI (.cons (.cst (.int 2)) (.cons (.call 3 (.cons (.rf 0) (.cons (.cst (.int 31)) .nil))) .nil))))
    (.cons (.ite (.op .eq (.cons (.var 1) (.cons (.cst (.int 0)) .nil)))
    (.cons (.ret (.op (.mkT .fz) (.cons (.var 2) (.cons (.call 9 (.cons (.rf 0) (.cons (.var 2) .nil))) .nil))))
    .nil)
    .nil)
    (.cons (.set 3 (.call 6 (.cons (.rf 0) (.cons (.var 2) .nil))))
    (.cons (.ite (.op .eq (.cons (.var 1) (.cons (.cst (.int 1)) .nil)))
    (.cons (.set 3 (.call 7 (.cons (.rf 0) (.cons (.var 2) (.cons (.var 3) .nil)))))
    .nil)
    .nil)
    (.cons (.ite (.op .eq (.cons (.var 1) (.cons (.cst (.int 2)) .nil)))
    (.cons (.set 2 (.op .max2 (.cons (.cst (.int 3)) (.cons (.var 2) .nil))))
    (.cons (.set 3 (.frz (.op .cat (.cons (.comp .fz [5] false (.rng1 (.op .sub (.cons (.var 2) (.cons (.cst (.int 1)) .nil)))) .none (.op (.mkT .fz) (.cons (.var 5) (.cons (.op .addI (.cons (.var 5) (.cons (.cst (.int 1)) .nil))) .nil)))) (.cons (.op (.mkL .fz) (.cons (.op (.mkT .fz) (.cons (.cst (.int 0)) (.cons (.op .sub (.cons (.var 2) (.cons (.cst (.int 1)) .nil))) .nil))) .nil)) .nil)))))
    .nil))
    .nil)
    (.cons (.ite (.op .eq (.cons (.var 1) (.cons (.cst (.int 3)) .nil)))
    (.cons (.set 2 (.op .addI (.cons (.cst (.int 2)) (.cons (.op .mod (.cons (.var 2) (.cons (.cst (.int 8)) .nil))) .nil))))
    (.cons (.set 3 (.frz (.op (.mkL .fz) .nil)))
    (.cons (.for_ [4] false (.rng1 (.var 2))
    (.cons (.set 3 (.frz (.op .cat (.cons (.var 3) (.cons (.comp .fz [6] false (.rng1 (.var 4)) .none (.op (.mkT .fz) (.cons (.var 6) (.cons (.var 4) .nil)))) .nil)))))
    .nil))
    .nil)))
    .nil)
    (.cons (.ite (.op .in_ (.cons (.var 1) (.cons (.op (.mkT .fz) (.cons (.cst (.int 4)) (.cons (.cst (.int 5)) .nil))) .nil)))
    (.cons (.unp false [2, 3] (.call 5 (.cons (.call 4 (.cons (.rf 0) .nil)) .nil)))
    .nil)
    .nil)
    (.cons (.ret (.op (.mkT .fz) (.cons (.var 2) (.cons (.frz (.op .sorted (.cons (.op .cat (.cons (.var 3) (.cons (.comp .fz [6, 4] true (.seq (.var 3)) .none (.op (.mkT .fz) (.cons (.var 4) (.cons (.var 6) .nil)))) .nil))) .nil))) .nil))))
    .nil)))))))))⟩
def f11 : FD := ⟨"_law_ground", ["_law_pot_here", "_law_waits", "_law_many", "_law_pairs", "_law_one", "_law_other"], [(.lst .fz), .fz, .fz, .fz, .fz, .fz], 2, .fz,
    (.cons (.ite (.op .not_ (.cons (.var 1) .nil))
    (.cons (.ret (.call 10 (.cons (.rf 0) .nil)))
    .nil)
    .nil)
    (.cons (.unp false [2, 3] (.call 5 (.cons (.call 4 (.cons (.rf 0) .nil)) .nil)))
    (.cons (.ret (.op (.mkT .fz) (.cons (.var 2) (.cons (.frz (.op .sorted (.cons (.op .cat (.cons (.var 3) (.cons (.comp .fz [4, 5] true (.seq (.var 3)) .none (.op (.mkT .fz) (.cons (.var 5) (.cons (.var 4) .nil)))) .nil))) .nil))) .nil))))
    .nil)))⟩
def f12 : FD := ⟨"_law_outs", ["_law_many", "_law_ties", "_law_found", "_law_house", "_law_some", "_law_step", "_law_one", "_law_other"], [.fz, .fz, (.lst .fz), .fz, .fz, .fz, .fz, .fz], 2, .fz,
    (.cons (.set 2 (.op (.mkL .fz) .nil))
    (.cons (.for_ [3] false (.rng1 (.var 0))
    (.cons (.set 4 (.frz (.op .sorted (.cons (.comp .fz [6, 7] true (.seq (.var 1)) (.some (.op .eq (.cons (.var 6) (.cons (.var 3) .nil)))) (.op .mod (.cons (.op .sub (.cons (.var 7) (.cons (.var 3) .nil))) (.cons (.var 0) .nil)))) .nil))))
    (.cons (.smt .append 2 (.cons (.frz (.comp .fz [5] false (.seq (.var 4)) .none (.op .mod (.cons (.op .addI (.cons (.var 3) (.cons (.var 5) .nil))) (.cons (.var 0) .nil))))) .nil))
    .nil)))
    (.cons (.ret (.frz (.mv 2)))
    .nil)))⟩
def f13 : FD := ⟨"_law_homes", ["_law_pot_here", "_law_many", "_law_letters", "_law_span", "_law_k"], [(.lst .fz), .fz, .fz, .fz, .fz], 3, .fz,
    (.cons (.set 3 (.op .min2 (.cons (.var 1) (.cons (.op .ix (.cons (.op (.mkL .fz) (.cons (.cst (.int 32)) (.cons (.cst (.int 3)) .nil))) (.cons (.call 3 (.cons (.rf 0) (.cons (.cst (.int 2)) .nil))) .nil))) .nil))))
    (.cons (.ret (.op .tuple (.cons (.comp .fz [4] false (.rng1 (.var 2)) .none (.call 3 (.cons (.rf 0) (.cons (.var 3) .nil)))) .nil)))
    .nil))⟩
def f14 : FD := ⟨"_law_begun", ["_law_pot_here", "_law_outs_here", "_law_homes_here", "_law_waits", "_law_span", "_law_stand", "_law_home", "_law_house", "_law_some", "_law_k", "_law_other"], [(.lst .fz), .fz, .fz, .fz, .fz, (.lst .fz), .fz, .fz, .fz, .fz, .fz], 4, .fz,
    (.cons (.set 4 (.op .min2 (.cons (.op .len (.cons (.var 1) .nil)) (.cons (.op .ix (.cons (.op (.mkL .fz) (.cons (.cst (.int 32)) (.cons (.cst (.int 4)) .nil))) (.cons (.call 3 (.cons (.rf 0) (.cons (.cst (.int 2)) .nil))) .nil))) .nil))))
    (.cons (.set 5 (.op (.mkL .fz) .nil))
    (.cons (.for_ [6] false (.seq (.var 2))
    (.cons (.set 7 (.call 3 (.cons (.rf 0) (.cons (.op .addI (.cons (.var 4) (.cons (.cst (.int 1)) .nil))) .nil))))
    (.cons (.set 8 (.frz (.comp .fz [9] false (.rng1 (.op .mulI (.cons (.op .len (.cons (.var 1) .nil)) (.cons (.op .int (.cons (.op .lt (.cons (.var 7) (.cons (.var 4) .nil))) .nil)) .nil)))) .none (.op .mod (.cons (.op .addI (.cons (.var 7) (.cons (.var 9) .nil))) (.cons (.op .len (.cons (.var 1) .nil)) .nil))))))
    (.cons (.set 8 (.frz (.comp .fz [10] false (.seq (.var 8)) (.some (.and_ (.op .ne (.cons (.var 10) (.cons (.var 6) .nil))) (.or_ (.var 3) (.op .lt (.cons (.bm .cnt (.var 5) (.cons (.var 10) .nil)) (.cons (.op .len (.cons (.op .ix (.cons (.var 1) (.cons (.var 10) .nil))) .nil)) .nil)))))) (.var 10))))
    (.cons (.smt .append 5 (.cons (.op .ix (.cons (.op .cat (.cons (.var 8) (.cons (.op (.mkL .fz) (.cons (.cst .non) .nil)) .nil))) (.cons (.cst (.int 0)) .nil))) .nil))
    .nil)))))
    (.cons (.ret (.op .tuple (.cons (.var 5) .nil)))
    .nil))))⟩
def f15 : FD := ⟨"_law_handing", ["_law_pot_here", "_law_outs_here", "_law_stand", "_law_waits", "_law_taken", "_law_handing_here", "_law_house", "_law_goes", "_law_some", "_law_other"], [(.lst .fz), .fz, .fz, .fz, (.lst .fz), (.lst .fz), .fz, .fz, .fz, .fz], 4, .fz,
    (.cons (.set 4 (.op (.mkL .fz) .nil))
    (.cons (.set 5 (.op (.mkL .fz) .nil))
    (.cons (.for_ [6] false (.seq (.var 2))
    (.cons (.set 7 (.cst .non))
    (.cons (.ite (.op .notN (.cons (.var 6) .nil))
    (.cons (.set 8 (.frz (.op .cat (.cons (.comp .fz [9] false (.seq (.op .ix (.cons (.var 1) (.cons (.var 6) .nil)))) (.some (.op .ni (.cons (.op (.mkT .fz) (.cons (.var 6) (.cons (.var 9) .nil))) (.cons (.var 4) .nil)))) (.var 9)) (.cons (.op .rep (.cons (.op (.mkL .fz) (.cons (.var 6) .nil)) (.cons (.op .int (.cons (.var 3) .nil)) .nil))) .nil)))))
    (.cons (.set 7 (.op .ix (.cons (.var 8) (.cons (.call 3 (.cons (.rf 0) (.cons (.op .len (.cons (.var 8) .nil)) .nil))) .nil))))
    (.cons (.smt .append 4 (.cons (.op (.mkT .fz) (.cons (.var 6) (.cons (.var 7) .nil))) .nil))
    .nil)))
    .nil)
    (.cons (.smt .append 5 (.cons (.var 7) .nil))
    .nil))))
    (.cons (.ret (.op .tuple (.cons (.var 5) .nil)))
    .nil))))⟩
def f16 : FD := ⟨"_law_behind", ["_law_homes_here", "_law_stand", "_law_handing_here", "_law_found", "_law_k", "_law_gone"], [.fz, .fz, .fz, (.lst .fz), .fz, .fz], 3, .fz,
    (.cons (.set 3 (.op (.mkL .fz) .nil))
    (.cons (.for_ [4] false (.rng1 (.op .len (.cons (.var 0) .nil)))
    (.cons (.set 5 (.or_ (.op .isN (.cons (.op .ix (.cons (.var 1) (.cons (.var 4) .nil))) .nil)) (.op .eq (.cons (.op .ix (.cons (.var 2) (.cons (.var 4) .nil))) (.cons (.op .ix (.cons (.var 0) (.cons (.var 4) .nil))) .nil)))))
    (.cons (.smt .append 3 (.cons (.ite (.var 5) (.cst .non) (.op .ix (.cons (.var 2) (.cons (.var 4) .nil)))) .nil))
    .nil)))
    (.cons (.ret (.op .tuple (.cons (.var 3) .nil)))
    .nil)))⟩
def f17 : FD := ⟨"_law_walked", ["_law_pot_here", "_law_outs_here", "_law_homes_here", "_law_waits", "_law_size", "_law_stands", "_law_log", "_law_k"], [(.lst .fz), .fz, .fz, .fz, .fz, (.lst .fz), (.lst .fz), .fz], 5, (.tup (.lst .fz)),
    (.cons (.set 5 (.op (.mkL .fz) (.cons (.call 14 (.cons (.rf 0) (.cons (.var 1) (.cons (.var 2) (.cons (.var 3) .nil))))) .nil)))
    (.cons (.set 6 (.op (.mkL .fz) .nil))
    (.cons (.for_ [7] false (.rng1 (.var 4))
    (.cons (.smt .append 6 (.cons (.call 15 (.cons (.rf 0) (.cons (.var 1) (.cons (.op .ix (.cons (.var 5) (.cons (.op .neg (.cons (.cst (.int 1)) .nil)) .nil))) (.cons (.var 3) .nil))))) .nil))
    (.cons (.smt .append 5 (.cons (.call 16 (.cons (.var 2) (.cons (.op .ix (.cons (.var 5) (.cons (.op .neg (.cons (.cst (.int 1)) .nil)) .nil))) (.cons (.op .ix (.cons (.var 6) (.cons (.op .neg (.cons (.cst (.int 1)) .nil)) .nil))) .nil)))) .nil))
    .nil)))
    (.cons (.ret (.op (.mkT (.lst .fz)) (.cons (.mv 5) (.cons (.mv 6) .nil))))
    .nil))))⟩
def f18 : FD := ⟨"_law_right", ["_law_pot_here", "_law_waits", "_law_size", "_law_letters", "_law_homes_here", "_law_kept", "_law_told", "_law_many", "_law_ties", "_law_stands", "_law_log"], [(.lst .fz), .fz, .fz, .fz, .fz, (.lst .fz), (.lst .fz), .fz, .fz, (.lst .fz), (.lst .fz)], 1, .fz,
    (.cons (.set 1 (.op .eq (.cons (.call 3 (.cons (.rf 0) (.cons (.cst (.int 3)) .nil))) (.cons (.cst (.int 2)) .nil))))
    (.cons (.set 2 (.call 3 (.cons (.rf 0) (.cons (.op .ix (.cons (.op (.mkL .fz) (.cons (.cst (.int 7)) (.cons (.cst (.int 61)) (.cons (.cst (.int 501)) .nil)))) (.cons (.call 3 (.cons (.rf 0) (.cons (.cst (.int 3)) .nil))) .nil))) .nil))))
    (.cons (.set 3 (.call 3 (.cons (.rf 0) (.cons (.cst (.int 17)) .nil))))
    (.cons (.unp false [7, 8] (.call 11 (.cons (.rf 0) (.cons (.var 1) .nil))))
    (.cons (.set 4 (.call 13 (.cons (.rf 0) (.cons (.var 7) (.cons (.var 3) .nil)))))
    (.cons (.unp false [9, 10] (.call 17 (.cons (.rf 0) (.cons (.call 12 (.cons (.var 7) (.cons (.var 8) .nil))) (.cons (.var 4) (.cons (.var 1) (.cons (.var 2) .nil)))))))
    (.cons (.set 5 (.op .list (.cons (.var 10) .nil)))
    (.cons (.set 6 (.call 1 (.cons (.var 4) (.cons (.op .ix (.cons (.var 9) (.cons (.cst (.int 0)) .nil))) (.cons (.rf 10) .nil)))))
    (.cons (.ite (.or_ (.op .not_ (.cons (.op .isL (.cons (.var 6) .nil)) .nil)) (.or_ (.op .ne (.cons (.var 6) (.cons (.var 9) .nil))) (.op .ne (.cons (.var 10) (.cons (.var 5) .nil)))))
    (.cons (.ret (.cst (.bl false)))
    .nil)
    .nil)
    (.cons (.smt .append 6 (.cons (.var 4) .nil))
    (.cons (.sidx 6 (.cst (.int 0)) (.cst .non))
    (.cons (.smt .append 10 (.cons (.var 4) .nil))
    (.cons (.ret (.op .eq (.cons (.call 1 (.cons (.var 4) (.cons (.op .ix (.cons (.var 9) (.cons (.cst (.int 0)) .nil))) (.cons (.rf 5) .nil)))) (.cons (.var 9) .nil))))
    .nil)))))))))))))⟩
def f19 : FD := ⟨"law", ["_law_script", "_law_k"], [.fz, .fz], 1, .fz,
    (.cons (.ret (.op .all (.cons (.comp .fz [1] false (.rng1 (.op .max2 (.cons (.cst (.int 1)) (.cons (.op .min2 (.cons (.cst (.int 3)) (.cons (.op .len (.cons (.var 0) .nil)) .nil))) .nil)))) .none (.call 18 (.cons (.call 2 (.cons (.var 0) (.cons (.var 1) .nil))) .nil))) .nil)))
    .nil)⟩
def fds : List FD := [f0, f1, f2, f3, f4, f5, f6, f7, f8, f9, f10, f11, f12, f13, f14, f15, f16, f17, f18, f19]
def top (i : Nat) : Stmt := PySem.Challenge.pw_neverwait_k51_stands_of_a_log.main.body.getD i (.Pass ⟨0, 0, 0, 0⟩)
def d0 : He.DefD := ⟨("stepped", none), "stepped", "stepped", defArgs (top 1), defBody (top 1), defScope (top 1), [], []⟩
def d1 : He.DefD := ⟨("stands_of", none), "stands_of", "stands_of", defArgs (top 2), defBody (top 2), defScope (top 2), [], []⟩
def d2 : He.DefD := ⟨("_law_pot", none), "_law_pot", "_law_pot", defArgs (top 4), defBody (top 4), defScope (top 4), [], []⟩
def d3 : He.DefD := ⟨("_law_take", none), "_law_take", "_law_take", defArgs (top 5), defBody (top 5), defScope (top 5), [], []⟩
def d4 : He.DefD := ⟨("_law_sides", none), "_law_sides", "_law_sides", defArgs (top 6), defBody (top 6), defScope (top 6), [], []⟩
def d5 : He.DefD := ⟨("_law_box_pairs", none), "_law_box_pairs", "_law_box_pairs", defArgs (top 7), defBody (top 7), defScope (top 7), [], []⟩
def d6 : He.DefD := ⟨("_law_tree_pairs", none), "_law_tree_pairs", "_law_tree_pairs", defArgs (top 8), defBody (top 8), defScope (top 8), [], []⟩
def d7 : He.DefD := ⟨("_law_more_pairs", none), "_law_more_pairs", "_law_more_pairs", defArgs (top 9), defBody (top 9), defScope (top 9), [], []⟩
def d8 : He.DefD := ⟨("_law_cycle", none), "_law_cycle", "_law_cycle", defArgs (top 10), defBody (top 10), defScope (top 10), [], []⟩
def d9 : He.DefD := ⟨("_law_one_way", none), "_law_one_way", "_law_one_way", defArgs (top 11), defBody (top 11), defScope (top 11), [], []⟩
def d10 : He.DefD := ⟨("_law_net", none), "_law_net", "_law_net", defArgs (top 12), defBody (top 12), defScope (top 12), [], []⟩
def d11 : He.DefD := ⟨("_law_ground", none), "_law_ground", "_law_ground", defArgs (top 13), defBody (top 13), defScope (top 13), [], []⟩
def d12 : He.DefD := ⟨("_law_outs", none), "_law_outs", "_law_outs", defArgs (top 14), defBody (top 14), defScope (top 14), [], []⟩
def d13 : He.DefD := ⟨("_law_homes", none), "_law_homes", "_law_homes", defArgs (top 15), defBody (top 15), defScope (top 15), [], []⟩
def d14 : He.DefD := ⟨("_law_begun", none), "_law_begun", "_law_begun", defArgs (top 16), defBody (top 16), defScope (top 16), [], []⟩
def d15 : He.DefD := ⟨("_law_handing", none), "_law_handing", "_law_handing", defArgs (top 17), defBody (top 17), defScope (top 17), [], []⟩
def d16 : He.DefD := ⟨("_law_behind", none), "_law_behind", "_law_behind", defArgs (top 18), defBody (top 18), defScope (top 18), [], []⟩
def d17 : He.DefD := ⟨("_law_walked", none), "_law_walked", "_law_walked", defArgs (top 19), defBody (top 19), defScope (top 19), [], []⟩
def d18 : He.DefD := ⟨("_law_right", none), "_law_right", "_law_right", defArgs (top 20), defBody (top 20), defScope (top 20), [], []⟩
def d19 : He.DefD := ⟨("law", none), "law", "law", defArgs (top 21), defBody (top 21), defScope (top 21), [], []⟩
def fn : List He.DefD := [d0, d1, d2, d3, d4, d5, d6, d7, d8, d9, d10, d11, d12, d13, d14, d15, d16, d17, d18, d19]
def fa : List He.Fa := [.glo "stepped", .glo "stands_of", .glo "_law_pot", .glo "_law_take", .glo "_law_sides", .glo "_law_box_pairs", .glo "_law_tree_pairs", .glo "_law_more_pairs", .glo "_law_cycle", .glo "_law_one_way", .glo "_law_net", .glo "_law_ground", .glo "_law_outs", .glo "_law_homes", .glo "_law_begun", .glo "_law_handing", .glo "_law_behind", .glo "_law_walked", .glo "_law_right", .glo "law", .free "abs", .free "all", .free "int", .free "isinstance", .free "len", .free "list", .free "max", .free "min", .free "range", .free "sorted", .free "tuple", .free "zip"]
def names : List PySem.Str := ["stepped", "stands_of", "_law_pot", "_law_take", "_law_sides", "_law_box_pairs", "_law_tree_pairs", "_law_more_pairs", "_law_cycle", "_law_one_way", "_law_net", "_law_ground", "_law_outs", "_law_homes", "_law_begun", "_law_handing", "_law_behind", "_law_walked", "_law_right"]
def T : Txt := ⟨fds, fn, ["abs", "all", "int", "isinstance", "len", "list", "max", "min", "range", "sorted", "tuple", "zip"], []⟩
theorem ok0 : okD T f0 d0 = true := by decide +kernel
theorem ok1 : okD T f1 d1 = true := by decide +kernel
theorem ok2 : okD T f2 d2 = true := by decide +kernel
theorem ok3 : okD T f3 d3 = true := by decide +kernel
theorem ok4 : okD T f4 d4 = true := by decide +kernel
theorem ok5 : okD T f5 d5 = true := by decide +kernel
theorem ok6 : okD T f6 d6 = true := by decide +kernel
theorem ok7 : okD T f7 d7 = true := by decide +kernel
theorem ok8 : okD T f8 d8 = true := by decide +kernel
theorem ok9 : okD T f9 d9 = true := by decide +kernel
theorem ok10 : okD T f10 d10 = true := by decide +kernel
theorem ok11 : okD T f11 d11 = true := by decide +kernel
theorem ok12 : okD T f12 d12 = true := by decide +kernel
theorem ok13 : okD T f13 d13 = true := by decide +kernel
theorem ok14 : okD T f14 d14 = true := by decide +kernel
theorem ok15 : okD T f15 d15 = true := by decide +kernel
theorem ok16 : okD T f16 d16 = true := by decide +kernel
theorem ok17 : okD T f17 d17 = true := by decide +kernel
theorem ok18 : okD T f18 d18 = true := by decide +kernel
theorem ok19 : okD T f19 d19 = true := by decide +kernel
theorem ok : ∀ (i : Nat) (fd : FD) (d : He.DefD), T.fds[i]? = some fd → T.defs[i]? = some d → okD T fd d = true
  | 0, _, _, h1, h2 => by cases h1; cases h2; exact ok0
  | 1, _, _, h1, h2 => by cases h1; cases h2; exact ok1
  | 2, _, _, h1, h2 => by cases h1; cases h2; exact ok2
  | 3, _, _, h1, h2 => by cases h1; cases h2; exact ok3
  | 4, _, _, h1, h2 => by cases h1; cases h2; exact ok4
  | 5, _, _, h1, h2 => by cases h1; cases h2; exact ok5
  | 6, _, _, h1, h2 => by cases h1; cases h2; exact ok6
  | 7, _, _, h1, h2 => by cases h1; cases h2; exact ok7
  | 8, _, _, h1, h2 => by cases h1; cases h2; exact ok8
  | 9, _, _, h1, h2 => by cases h1; cases h2; exact ok9
  | 10, _, _, h1, h2 => by cases h1; cases h2; exact ok10
  | 11, _, _, h1, h2 => by cases h1; cases h2; exact ok11
  | 12, _, _, h1, h2 => by cases h1; cases h2; exact ok12
  | 13, _, _, h1, h2 => by cases h1; cases h2; exact ok13
  | 14, _, _, h1, h2 => by cases h1; cases h2; exact ok14
  | 15, _, _, h1, h2 => by cases h1; cases h2; exact ok15
  | 16, _, _, h1, h2 => by cases h1; cases h2; exact ok16
  | 17, _, _, h1, h2 => by cases h1; cases h2; exact ok17
  | 18, _, _, h1, h2 => by cases h1; cases h2; exact ok18
  | 19, _, _, h1, h2 => by cases h1; cases h2; exact ok19
  | n + 20, _, _, h1, _ => by simp [T, fds] at h1
end Lk51
namespace Lk51
open Mini
abbrev pot (a b c : Int) : D := .lst [.int a, .int b, .int c]
theorem take_ok (n : Nat) (a b c m : Int) (hm : 0 < m) (hm2 : m < 4611686018427387904) : wC (callF fds (n + 1) 3 [pot a b c, .int m]) fun d os => ∃ r a' b' c', d = .int r ∧ 0 ≤ r ∧ r < m ∧ os = [some (pot a' b' c'), none] := by
  refine wC_call (fd := f3) rfl rfl ?_
  show wSs (callF fds n) f3.body [some (.lst [.int a, .int b, .int c]), some (.int m), none] _ _
  simp (maxSteps := 2000000) (disch := first | assumption | omega) only [f3, wSs_cons, wSs_nil, wS_set, wS_unp, wS_sidx, wS_smt, wS_ex, wS_ret, wS_ite, wS_pass, wE_cst, wE_glb, wE_var, wE_sv, wE_mv, wE_rf, wE_frz, wE_op, wEs_nil, wEs_cons, wE_and, wE_or, wE_ite, wE_call, wE_bm, wE_pop, wK_none, wK_some, wR_seq, wR_rng1, wR_rng2, wR_zip, oS_some, bS_bl, iS_int, Mini.get, Mini.put, Mini.clear, Mini.back, Mini.scal, sem_neg, sem_not, sem_isN, sem_notN, sem_addI, sem_sub, sem_lt, sem_le, sem_gt, sem_ge, sem_eq, sem_ne, sem_in, sem_ni, sem_ixL, sem_ixT, sem_ixS, sem_lenL, sem_lenT, sem_lenS, sem_abs, sem_max2, sem_min2, sem_tupL, sem_tupT, sem_listL, sem_listT, sem_sorted, sem_all, sem_intB, sem_intI, sem_isL, sem_mkL0, sem_mkL1, sem_mkL2, sem_mkL3, sem_mkT0, sem_mkT1, sem_mkT2, sem_mkT3, Mini.isLst, Mini.fill, Mini.refs, Mini.ref1, Mini.backR, Option.map_some, Mini.unpD, Mini.bindL, Mini.bindT, Mini.itemsD, Mini.recM, Mini.isNon, Mini.wOut, Mini.outsOf, Mini.own, List.take, true_and, and_true, if_true, Bool.false_eq_true, if_false, at3_0, at3_1, at3_2, at2_0, at2_1, ix3_0, ix3_1, ix3_2, List.length_cons, List.length_nil, List.set_cons_zero, List.set_cons_succ, Nat.zero_add, Nat.reduceAdd, sem_fdivS, sem_mulS, sem_mod]
  split
  · exact ⟨_, _, _, _, rfl, Int.emod_nonneg _ (by omega), Int.emod_lt_of_pos _ hm, rfl⟩
  · exact ⟨_, _, _, _, rfl, Int.emod_nonneg _ (by omega), Int.emod_lt_of_pos _ hm, rfl⟩
end Lk51

namespace Lk51
open Mini
theorem app1 {l : List Int} {y : Int} (h : l.length < 1000000) : mopD .append (l.map D.int) [.int y] = some ((l ++ [y]).map .int) := by
  rw [mop_app (by rw [List.length_map]; exact h), List.map_append]
  rfl
theorem last1 {l : List Int} {y : Int} : atD ((l ++ [y]).map .int) (-1) = some (.int y) := by
  refine atD_neg ?_
  simp
theorem sides_ok (n : Nat) (a b c : Int) : wC (callF fds (n + 2) 4 [pot a b c]) fun d os => ∃ (l : List Int) (a' b' c' : Int), d = .tup (l.map .int) ∧ (∀ x ∈ l, 2 ≤ x) ∧ l.prod ≤ 32 ∧ 1 ≤ l.prod ∧ l.length ≤ 5 ∧ os = [some (pot a' b' c')] := by
  refine wC_call (fd := f4) rfl rfl ?_
  show wSs (callF fds (n + 1)) f4.body [some (pot a b c), none, none, none] _ _
  simp only [f4, wSs_cons, wS_set, wE_op, wEs_nil, sem_mkL0, oS_some, wE_cst, Mini.put]
  refine wS_for ?_
  simp only [wR_rng1, wE_cst, iS_int]
  refine ⟨by decide, ?_⟩
  refine rng_loop (n := 5) (fun i s => ∃ (a b c : Int) (l : List Int) (k : Option D), s = [some (pot a b c), some (.lst (l.map .int)), some (.int l.prod), k] ∧ (∀ x ∈ l, 2 ≤ x) ∧ 1 ≤ l.prod ∧ l.prod ≤ 32 ∧ l.length ≤ i) ⟨a, b, c, [], none, rfl, by simp, by decide, by decide, by simp⟩ ?_ ?_
  · rintro i s hi ⟨a, b, c, l, k, rfl, h1, h2, h3, h4⟩
    have hl : l.length < 1000000 := by omega
    have stp : l.prod ≤ 16 → 0 < (if 32 / l.prod - 1 < 7 then 32 / l.prod - 1 else 7) ∧ (if 32 / l.prod - 1 < 7 then 32 / l.prod - 1 else 7) < 4611686018427387904 := fun h => by
      have : 2 ≤ 32 / l.prod := Int.le_ediv_of_mul_le (by omega) (by omega)
      split <;> omega
    have fin : ∀ {r : Int}, l.prod ≤ 16 → 0 ≤ r → r < (if 32 / l.prod - 1 < 7 then 32 / l.prod - 1 else 7) → (∀ x ∈ l ++ [2 + r], 2 ≤ x) ∧ 1 ≤ (l ++ [2 + r]).prod ∧ (l ++ [2 + r]).prod ≤ 32 ∧ (l ++ [2 + r]).length ≤ i + 1 ∧ (l ++ [2 + r]).prod = l.prod * (2 + r) := fun {r} h g1 g2 => by
      have e : (l ++ [2 + r]).prod = l.prod * (2 + r) := by simp
      have g3 : 2 + r ≤ 32 / l.prod := by
        split at g2 <;> omega
      have g4 : l.prod * (2 + r) ≤ 32 := by
        have := Int.mul_le_of_le_ediv (a := 2 + r) (b := 32) (c := l.prod) (by omega) g3
        rw [Int.mul_comm]
        exact this
      have g5 : 0 < l.prod * (2 + r) := Int.mul_pos (by omega) (by omega)
      refine ⟨fun x hx => ?_, by rw [e]; omega, by rw [e]; exact g4, by simp; omega, e⟩
      rcases List.mem_append.mp hx with hx | hx
      · exact h1 x hx
      · rw [List.mem_singleton.mp hx]
        omega
    simp (maxSteps := 2000000) (disch := first | assumption | omega) only [ints_nil, wSs_cons, wSs_nil, wS_set, wS_unp, wS_sidx, wS_smt, wS_ex, wS_ret, wS_ite, wS_pass, wE_cst, wE_glb, wE_var, wE_sv, wE_mv, wE_rf, wE_frz, wE_op, wEs_nil, wEs_cons, wE_and, wE_or, wE_ite, wE_call, wE_bm, wE_pop, wK_none, wK_some, wR_seq, wR_rng1, wR_rng2, wR_zip, oS_some, bS_bl, iS_int, Mini.get, Mini.put, Mini.clear, Mini.back, Mini.scal, sem_neg, sem_not, sem_isN, sem_notN, sem_addI, sem_sub, sem_lt, sem_le, sem_gt, sem_ge, sem_eq, sem_ne, sem_in, sem_ni, sem_ixL, sem_ixT, sem_ixS, sem_lenL, sem_lenT, sem_lenS, sem_abs, sem_max2, sem_min2, sem_tupL, sem_tupT, sem_listL, sem_listT, sem_sorted, sem_all, sem_intB, sem_intI, sem_isL, sem_mkL0, sem_mkL1, sem_mkL2, sem_mkL3, sem_mkT0, sem_mkT1, sem_mkT2, sem_mkT3, Mini.isLst, Mini.fill, Mini.refs, Mini.ref1, Mini.backR, Option.map_some, Mini.unpD, Mini.bindL, Mini.bindT, Mini.itemsD, Mini.recM, Mini.isNon, Mini.wOut, Mini.outsOf, Mini.own, List.take, true_and, and_true, if_true, Bool.false_eq_true, if_false, at3_0, at3_1, at3_2, at2_0, at2_1, ix3_0, ix3_1, ix3_2, List.length_cons, List.length_nil, List.set_cons_zero, List.set_cons_succ, Nat.zero_add, Nat.reduceAdd, sem_fdivS, sem_mulS, sem_mod]
    split
    · rename_i g
      have g := of_decide_eq_true g
      obtain ⟨s1, s2⟩ := stp g
      split
      · refine wC_mono (take_ok n a b c _ s1 s2) ?_
        rintro d os ⟨r, a', b', c', rfl, r1, r2, rfl⟩
        obtain ⟨q1, q2, q3, q4, q5⟩ := fin g r1 r2
        simp (maxSteps := 2000000) (disch := first | assumption | omega) only [app1, last1, wSs_cons, wSs_nil, wS_set, wS_unp, wS_sidx, wS_smt, wS_ex, wS_ret, wS_ite, wS_pass, wE_cst, wE_glb, wE_var, wE_sv, wE_mv, wE_rf, wE_frz, wE_op, wEs_nil, wEs_cons, wE_and, wE_or, wE_ite, wE_call, wE_bm, wE_pop, wK_none, wK_some, wR_seq, wR_rng1, wR_rng2, wR_zip, oS_some, bS_bl, iS_int, Mini.get, Mini.put, Mini.clear, Mini.back, Mini.scal, sem_neg, sem_not, sem_isN, sem_notN, sem_addI, sem_sub, sem_lt, sem_le, sem_gt, sem_ge, sem_eq, sem_ne, sem_in, sem_ni, sem_ixL, sem_ixT, sem_ixS, sem_lenL, sem_lenT, sem_lenS, sem_abs, sem_max2, sem_min2, sem_tupL, sem_tupT, sem_listL, sem_listT, sem_sorted, sem_all, sem_intB, sem_intI, sem_isL, sem_mkL0, sem_mkL1, sem_mkL2, sem_mkL3, sem_mkT0, sem_mkT1, sem_mkT2, sem_mkT3, Mini.isLst, Mini.fill, Mini.refs, Mini.ref1, Mini.backR, Option.map_some, Mini.unpD, Mini.bindL, Mini.bindT, Mini.itemsD, Mini.recM, Mini.isNon, Mini.wOut, Mini.outsOf, Mini.own, List.take, true_and, and_true, if_true, Bool.false_eq_true, if_false, at3_0, at3_1, at3_2, at2_0, at2_1, ix3_0, ix3_1, ix3_2, List.length_cons, List.length_nil, List.set_cons_zero, List.set_cons_succ, Nat.zero_add, Nat.reduceAdd, sem_fdivS, sem_mulS, sem_mod]
        exact ⟨a', b', c', l ++ [2 + r], _, by rw [q5], q1, q2, q3, q4⟩
      · refine wC_mono (take_ok n a b c 4 (by omega) (by omega)) ?_
        rintro d os ⟨r, a', b', c', rfl, r1, r2, rfl⟩
        simp (maxSteps := 2000000) (disch := first | assumption | omega) only [app1, last1, wSs_cons, wSs_nil, wS_set, wS_unp, wS_sidx, wS_smt, wS_ex, wS_ret, wS_ite, wS_pass, wE_cst, wE_glb, wE_var, wE_sv, wE_mv, wE_rf, wE_frz, wE_op, wEs_nil, wEs_cons, wE_and, wE_or, wE_ite, wE_call, wE_bm, wE_pop, wK_none, wK_some, wR_seq, wR_rng1, wR_rng2, wR_zip, oS_some, bS_bl, iS_int, Mini.get, Mini.put, Mini.clear, Mini.back, Mini.scal, sem_neg, sem_not, sem_isN, sem_notN, sem_addI, sem_sub, sem_lt, sem_le, sem_gt, sem_ge, sem_eq, sem_ne, sem_in, sem_ni, sem_ixL, sem_ixT, sem_ixS, sem_lenL, sem_lenT, sem_lenS, sem_abs, sem_max2, sem_min2, sem_tupL, sem_tupT, sem_listL, sem_listT, sem_sorted, sem_all, sem_intB, sem_intI, sem_isL, sem_mkL0, sem_mkL1, sem_mkL2, sem_mkL3, sem_mkT0, sem_mkT1, sem_mkT2, sem_mkT3, Mini.isLst, Mini.fill, Mini.refs, Mini.ref1, Mini.backR, Option.map_some, Mini.unpD, Mini.bindL, Mini.bindT, Mini.itemsD, Mini.recM, Mini.isNon, Mini.wOut, Mini.outsOf, Mini.own, List.take, true_and, and_true, if_true, Bool.false_eq_true, if_false, at3_0, at3_1, at3_2, at2_0, at2_1, ix3_0, ix3_1, ix3_2, List.length_cons, List.length_nil, List.set_cons_zero, List.set_cons_succ, Nat.zero_add, Nat.reduceAdd, sem_fdivS, sem_mulS, sem_mod]
        split
        · refine wC_mono (take_ok n a' b' c' _ s1 s2) ?_
          rintro d os ⟨r, a', b', c', rfl, r1, r2, rfl⟩
          obtain ⟨q1, q2, q3, q4, q5⟩ := fin g r1 r2
          simp (maxSteps := 2000000) (disch := first | assumption | omega) only [app1, last1, wSs_cons, wSs_nil, wS_set, wS_unp, wS_sidx, wS_smt, wS_ex, wS_ret, wS_ite, wS_pass, wE_cst, wE_glb, wE_var, wE_sv, wE_mv, wE_rf, wE_frz, wE_op, wEs_nil, wEs_cons, wE_and, wE_or, wE_ite, wE_call, wE_bm, wE_pop, wK_none, wK_some, wR_seq, wR_rng1, wR_rng2, wR_zip, oS_some, bS_bl, iS_int, Mini.get, Mini.put, Mini.clear, Mini.back, Mini.scal, sem_neg, sem_not, sem_isN, sem_notN, sem_addI, sem_sub, sem_lt, sem_le, sem_gt, sem_ge, sem_eq, sem_ne, sem_in, sem_ni, sem_ixL, sem_ixT, sem_ixS, sem_lenL, sem_lenT, sem_lenS, sem_abs, sem_max2, sem_min2, sem_tupL, sem_tupT, sem_listL, sem_listT, sem_sorted, sem_all, sem_intB, sem_intI, sem_isL, sem_mkL0, sem_mkL1, sem_mkL2, sem_mkL3, sem_mkT0, sem_mkT1, sem_mkT2, sem_mkT3, Mini.isLst, Mini.fill, Mini.refs, Mini.ref1, Mini.backR, Option.map_some, Mini.unpD, Mini.bindL, Mini.bindT, Mini.itemsD, Mini.recM, Mini.isNon, Mini.wOut, Mini.outsOf, Mini.own, List.take, true_and, and_true, if_true, Bool.false_eq_true, if_false, at3_0, at3_1, at3_2, at2_0, at2_1, ix3_0, ix3_1, ix3_2, List.length_cons, List.length_nil, List.set_cons_zero, List.set_cons_succ, Nat.zero_add, Nat.reduceAdd, sem_fdivS, sem_mulS, sem_mod]
          exact ⟨a', b', c', l ++ [2 + r], _, by rw [q5], q1, q2, q3, q4⟩
        · exact ⟨a', b', c', l, _, rfl, h1, h2, h3, by omega⟩
    · exact ⟨a, b, c, l, _, rfl, h1, h2, h3, by omega⟩
  · rintro s ⟨a, b, c, l, k, rfl, h1, h2, h3, h4⟩
    simp (maxSteps := 2000000) (disch := first | assumption | omega) only [wSs_cons, wSs_nil, wS_set, wS_unp, wS_sidx, wS_smt, wS_ex, wS_ret, wS_ite, wS_pass, wE_cst, wE_glb, wE_var, wE_sv, wE_mv, wE_rf, wE_frz, wE_op, wEs_nil, wEs_cons, wE_and, wE_or, wE_ite, wE_call, wE_bm, wE_pop, wK_none, wK_some, wR_seq, wR_rng1, wR_rng2, wR_zip, oS_some, bS_bl, iS_int, Mini.get, Mini.put, Mini.clear, Mini.back, Mini.scal, sem_neg, sem_not, sem_isN, sem_notN, sem_addI, sem_sub, sem_lt, sem_le, sem_gt, sem_ge, sem_eq, sem_ne, sem_in, sem_ni, sem_ixL, sem_ixT, sem_ixS, sem_lenL, sem_lenT, sem_lenS, sem_abs, sem_max2, sem_min2, sem_tupL, sem_tupT, sem_listL, sem_listT, sem_sorted, sem_all, sem_intB, sem_intI, sem_isL, sem_mkL0, sem_mkL1, sem_mkL2, sem_mkL3, sem_mkT0, sem_mkT1, sem_mkT2, sem_mkT3, Mini.isLst, Mini.fill, Mini.refs, Mini.ref1, Mini.backR, Option.map_some, Mini.unpD, Mini.bindL, Mini.bindT, Mini.itemsD, Mini.recM, Mini.isNon, Mini.wOut, Mini.outsOf, Mini.own, List.take, true_and, and_true, if_true, Bool.false_eq_true, if_false, at3_0, at3_1, at3_2, at2_0, at2_1, ix3_0, ix3_1, ix3_2, List.length_cons, List.length_nil, List.set_cons_zero, List.set_cons_succ, Nat.zero_add, Nat.reduceAdd, sem_fdivS, sem_mulS, sem_mod]
    exact ⟨l, a, b, c, rfl, h1, h3, h2, h4, rfl⟩
end Lk51

namespace Lk51
open Mini
theorem prod_pos : ∀ {l : List Int}, (∀ x ∈ l, 2 ≤ x) → 1 ≤ l.prod
  | [], _ => by decide
  | x :: l, h => by
    have h1 := prod_pos (l := l) fun y hy => h y (List.mem_cons_of_mem _ hy)
    have h2 := h x List.mem_cons_self
    rw [List.prod_cons]
    have : 0 < x * l.prod := Int.mul_pos (by omega) (by omega)
    omega
theorem box_ok (n : Nat) (l : List Int) (h1 : ∀ x ∈ l, 2 ≤ x) (h2 : l.prod ≤ 32) (h3 : l.length ≤ 5) : wC (callF fds (n + 1) 5 [.tup (l.map .int)]) fun d os => ∃ ps : List (Int × Int), d = .tup [.int l.prod, .lst (ps.map prD)] ∧ ps.length ≤ 1000 ∧ Hlf l.prod ps ∧ os = [none] := by
  refine wC_call (fd := f5) rfl rfl ?_
  show wSs (callF fds n) f5.body [some (.tup (l.map .int)), none, none, none, none, none, none, none, none] _ _
  simp only [f5, wSs_cons, wS_set, wE_op, wEs_nil, sem_mkL0, oS_some, wE_cst, wE_frz, Mini.put]
  refine wS_for ?_
  simp only [wSs_cons, wSs_nil, wS_set, wS_unp, wS_sidx, wS_smt, wS_ex, wS_ret, wS_ite, wS_pass, wE_cst, wE_glb, wE_var, wE_sv, wE_mv, wE_rf, wE_frz, wE_op, wEs_nil, wEs_cons, wE_and, wE_or, wE_ite, wE_call, wE_bm, wE_pop, wK_none, wK_some, wR_seq, wR_rng1, wR_rng2, wR_zip, oS_some, bS_bl, iS_int, Mini.get, Mini.put, Mini.clear, Mini.back, Mini.scal, sem_neg, sem_not, sem_isN, sem_notN, sem_addI, sem_sub, sem_lt, sem_le, sem_gt, sem_ge, sem_eq, sem_ne, sem_in, sem_ni, sem_ixL, sem_ixT, sem_ixS, sem_lenL, sem_lenT, sem_lenS, sem_abs, sem_max2, sem_min2, sem_tupL, sem_tupT, sem_listL, sem_listT, sem_sorted, sem_all, sem_intB, sem_intI, sem_isL, sem_mkL0, sem_mkL1, sem_mkL2, sem_mkL3, sem_mkT0, sem_mkT1, sem_mkT2, sem_mkT3, Mini.isLst, Mini.fill, Mini.refs, Mini.ref1, Mini.backR, Option.map_some, Mini.unpD, Mini.bindL, Mini.bindT, Mini.itemsD, Mini.recM, Mini.isNon, Mini.wOut, Mini.outsOf, Mini.own, List.take, true_and, and_true, if_true, Bool.false_eq_true, if_false, at3_0, at3_1, at3_2, at2_0, at2_1, ix3_0, ix3_1, ix3_2, List.length_cons, List.length_nil, List.set_cons_zero, List.set_cons_succ, Nat.zero_add, Nat.reduceAdd, sem_fdivS, sem_mulS, sem_mod]
  refine seq_loop (fun rest s => ∃ (dn rs : List Int) (ps : List (Int × Int)) (a b c : Option D), l = dn ++ rs ∧ rest = rs.map .int ∧ s = [some (.tup (l.map .int)), some (.int dn.prod), some (.lst (ps.map prD)), a, b, c, none, none, none] ∧ (ps.length : Int) ≤ dn.prod * dn.length ∧ Hlf dn.prod ps) ⟨[], l, [], none, none, none, rfl, rfl, rfl, by simp, .nil⟩ ?_ ?_
  · rintro d ds s ⟨dn, rs, ps, a, b, c, e1, e2, rfl, e3, hH⟩
    cases rs with
    | nil => cases e2
    | cons x rs =>
      rw [List.map_cons] at e2
      injection e2 with e4 e5
      subst e4 e5
      have hx : 2 ≤ x := h1 x (by rw [e1]; simp)
      have hd : 1 ≤ dn.prod := prod_pos fun y hy => h1 y (by rw [e1]; exact List.mem_append_left _ hy)
      have hr : 1 ≤ rs.prod := prod_pos fun y hy => h1 y (by rw [e1]; simp [hy])
      have hp : dn.prod * (x * rs.prod) ≤ 32 := by
        rw [e1, List.prod_append, List.prod_cons] at h2
        exact h2
      have hxr : x ≤ x * rs.prod := by
        have := Int.mul_le_mul_of_nonneg_left hr (show 0 ≤ x by omega)
        omega
      have hm1 : dn.prod * x ≤ 32 := by
        have := Int.mul_le_mul_of_nonneg_left hxr (show 0 ≤ dn.prod by omega)
        omega
      have hm2 : x ≤ 32 := by
        have := Int.mul_le_mul_of_nonneg_right hd (show 0 ≤ x by omega)
        omega
      have hm3 : dn.prod ≤ 32 := by
        have := Int.mul_le_mul_of_nonneg_left hx (show 0 ≤ dn.prod by omega)
        omega
      have hdl : dn.length + 1 ≤ 5 := by
        rw [e1] at h3
        simp at h3
        omega
      have hL : (ps.length : Int) ≤ 160 := by
        have : dn.prod * (dn.length : Int) ≤ 32 * 5 := Int.mul_le_mul hm3 (by omega) (by omega) (by omega)
        omega
      simp only [wSs_cons, wSs_nil, wS_set, wS_unp, wS_sidx, wS_smt, wS_ex, wS_ret, wS_ite, wS_pass, wE_cst, wE_glb, wE_var, wE_sv, wE_mv, wE_rf, wE_frz, wE_op, wEs_nil, wEs_cons, wE_and, wE_or, wE_ite, wE_call, wE_bm, wE_pop, wK_none, wK_some, wR_seq, wR_rng1, wR_rng2, wR_zip, oS_some, bS_bl, iS_int, Mini.get, Mini.put, Mini.clear, Mini.back, Mini.scal, sem_neg, sem_not, sem_isN, sem_notN, sem_addI, sem_sub, sem_lt, sem_le, sem_gt, sem_ge, sem_eq, sem_ne, sem_in, sem_ni, sem_ixL, sem_ixT, sem_ixS, sem_lenL, sem_lenT, sem_lenS, sem_abs, sem_max2, sem_min2, sem_tupL, sem_tupT, sem_listL, sem_listT, sem_sorted, sem_all, sem_intB, sem_intI, sem_isL, sem_mkL0, sem_mkL1, sem_mkL2, sem_mkL3, sem_mkT0, sem_mkT1, sem_mkT2, sem_mkT3, Mini.isLst, Mini.fill, Mini.refs, Mini.ref1, Mini.backR, Option.map_some, Mini.unpD, Mini.bindL, Mini.bindT, Mini.itemsD, Mini.recM, Mini.isNon, Mini.wOut, Mini.outsOf, Mini.own, List.take, true_and, and_true, if_true, Bool.false_eq_true, if_false, at3_0, at3_1, at3_2, at2_0, at2_1, ix3_0, ix3_1, ix3_2, List.length_cons, List.length_nil, List.set_cons_zero, List.set_cons_succ, Nat.zero_add, Nat.reduceAdd, sem_fdivS, sem_mulS, sem_mod]
      refine wS_for ?_
      simp only [wSs_cons, wSs_nil, wS_set, wS_unp, wS_sidx, wS_smt, wS_ex, wS_ret, wS_ite, wS_pass, wE_cst, wE_glb, wE_var, wE_sv, wE_mv, wE_rf, wE_frz, wE_op, wEs_nil, wEs_cons, wE_and, wE_or, wE_ite, wE_call, wE_bm, wE_pop, wK_none, wK_some, wR_seq, wR_rng1, wR_rng2, wR_zip, oS_some, bS_bl, iS_int, Mini.get, Mini.put, Mini.clear, Mini.back, Mini.scal, sem_neg, sem_not, sem_isN, sem_notN, sem_addI, sem_sub, sem_lt, sem_le, sem_gt, sem_ge, sem_eq, sem_ne, sem_in, sem_ni, sem_ixL, sem_ixT, sem_ixS, sem_lenL, sem_lenT, sem_lenS, sem_abs, sem_max2, sem_min2, sem_tupL, sem_tupT, sem_listL, sem_listT, sem_sorted, sem_all, sem_intB, sem_intI, sem_isL, sem_mkL0, sem_mkL1, sem_mkL2, sem_mkL3, sem_mkT0, sem_mkT1, sem_mkT2, sem_mkT3, Mini.isLst, Mini.fill, Mini.refs, Mini.ref1, Mini.backR, Option.map_some, Mini.unpD, Mini.bindL, Mini.bindT, Mini.itemsD, Mini.recM, Mini.isNon, Mini.wOut, Mini.outsOf, Mini.own, List.take, true_and, and_true, if_true, Bool.false_eq_true, if_false, at3_0, at3_1, at3_2, at2_0, at2_1, ix3_0, ix3_1, ix3_2, List.length_cons, List.length_nil, List.set_cons_zero, List.set_cons_succ, Nat.zero_add, Nat.reduceAdd, sem_fdivS, sem_mulS, sem_mod]
      refine ⟨by omega, ?_⟩
      refine rng_loop (fun i s => ∃ (ly : List (Int × Int)) (k : Option D), s = [some (.tup (l.map .int)), some (.int dn.prod), some (.lst (ps.map prD)), some (.int x), some (.lst (ly.map prD)), k, none, none, none] ∧ ly.length = i * ps.length ∧ Lay dn.prod (dn.prod * (i : Int)) ly) ⟨[], c, rfl, by simp, .nil⟩ ?_ ?_
      · rintro i s hi ⟨ly, k, rfl, e6, hLy⟩
        have hly : ly.length ≤ 5120 := by
          rw [e6]
          have := Nat.mul_le_mul (show i ≤ 32 by omega) (show ps.length ≤ 160 by omega)
          omega
        simp only [wSs_cons, wSs_nil, wS_set, wS_unp, wS_sidx, wS_smt, wS_ex, wS_ret, wS_ite, wS_pass, wE_cst, wE_glb, wE_var, wE_sv, wE_mv, wE_rf, wE_frz, wE_op, wEs_nil, wEs_cons, wE_and, wE_or, wE_ite, wE_call, wE_bm, wE_pop, wK_none, wK_some, wR_seq, wR_rng1, wR_rng2, wR_zip, oS_some, bS_bl, iS_int, Mini.get, Mini.put, Mini.clear, Mini.back, Mini.scal, sem_neg, sem_not, sem_isN, sem_notN, sem_addI, sem_sub, sem_lt, sem_le, sem_gt, sem_ge, sem_eq, sem_ne, sem_in, sem_ni, sem_ixL, sem_ixT, sem_ixS, sem_lenL, sem_lenT, sem_lenS, sem_abs, sem_max2, sem_min2, sem_tupL, sem_tupT, sem_listL, sem_listT, sem_sorted, sem_all, sem_intB, sem_intI, sem_isL, sem_mkL0, sem_mkL1, sem_mkL2, sem_mkL3, sem_mkT0, sem_mkT1, sem_mkT2, sem_mkT3, Mini.isLst, Mini.fill, Mini.refs, Mini.ref1, Mini.backR, Option.map_some, Mini.unpD, Mini.bindL, Mini.bindT, Mini.itemsD, Mini.recM, Mini.isNon, Mini.wOut, Mini.outsOf, Mini.own, List.take, true_and, and_true, if_true, Bool.false_eq_true, if_false, at3_0, at3_1, at3_2, at2_0, at2_1, ix3_0, ix3_1, ix3_2, List.length_cons, List.length_nil, List.set_cons_zero, List.set_cons_succ, Nat.zero_add, Nat.reduceAdd, sem_fdivS, sem_mulS, sem_mod]
        refine wE_comp ?_
        simp only [wSs_cons, wSs_nil, wS_set, wS_unp, wS_sidx, wS_smt, wS_ex, wS_ret, wS_ite, wS_pass, wE_cst, wE_glb, wE_var, wE_sv, wE_mv, wE_rf, wE_frz, wE_op, wEs_nil, wEs_cons, wE_and, wE_or, wE_ite, wE_call, wE_bm, wE_pop, wK_none, wK_some, wR_seq, wR_rng1, wR_rng2, wR_zip, oS_some, bS_bl, iS_int, Mini.get, Mini.put, Mini.clear, Mini.back, Mini.scal, sem_neg, sem_not, sem_isN, sem_notN, sem_addI, sem_sub, sem_lt, sem_le, sem_gt, sem_ge, sem_eq, sem_ne, sem_in, sem_ni, sem_ixL, sem_ixT, sem_ixS, sem_lenL, sem_lenT, sem_lenS, sem_abs, sem_max2, sem_min2, sem_tupL, sem_tupT, sem_listL, sem_listT, sem_sorted, sem_all, sem_intB, sem_intI, sem_isL, sem_mkL0, sem_mkL1, sem_mkL2, sem_mkL3, sem_mkT0, sem_mkT1, sem_mkT2, sem_mkT3, Mini.isLst, Mini.fill, Mini.refs, Mini.ref1, Mini.backR, Option.map_some, Mini.unpD, Mini.bindL, Mini.bindT, Mini.itemsD, Mini.recM, Mini.isNon, Mini.wOut, Mini.outsOf, Mini.own, List.take, true_and, and_true, if_true, Bool.false_eq_true, if_false, at3_0, at3_1, at3_2, at2_0, at2_1, ix3_0, ix3_1, ix3_2, List.length_cons, List.length_nil, List.set_cons_zero, List.set_cons_succ, Nat.zero_add, Nat.reduceAdd, sem_fdivS, sem_mulS, sem_mod]
        refine comp_map ps prD (fun p => prD (p.1 + dn.prod * (0 + (i : Int)), p.2 + dn.prod * (0 + (i : Int)))) (by rw [limE]; omega) (fun p hp => ?_) ?_
        · simp (disch := first | assumption | omega) only [prD, wSs_cons, wSs_nil, wS_set, wS_unp, wS_sidx, wS_smt, wS_ex, wS_ret, wS_ite, wS_pass, wE_cst, wE_glb, wE_var, wE_sv, wE_mv, wE_rf, wE_frz, wE_op, wEs_nil, wEs_cons, wE_and, wE_or, wE_ite, wE_call, wE_bm, wE_pop, wK_none, wK_some, wR_seq, wR_rng1, wR_rng2, wR_zip, oS_some, bS_bl, iS_int, Mini.get, Mini.put, Mini.clear, Mini.back, Mini.scal, sem_neg, sem_not, sem_isN, sem_notN, sem_addI, sem_sub, sem_lt, sem_le, sem_gt, sem_ge, sem_eq, sem_ne, sem_in, sem_ni, sem_ixL, sem_ixT, sem_ixS, sem_lenL, sem_lenT, sem_lenS, sem_abs, sem_max2, sem_min2, sem_tupL, sem_tupT, sem_listL, sem_listT, sem_sorted, sem_all, sem_intB, sem_intI, sem_isL, sem_mkL0, sem_mkL1, sem_mkL2, sem_mkL3, sem_mkT0, sem_mkT1, sem_mkT2, sem_mkT3, Mini.isLst, Mini.fill, Mini.refs, Mini.ref1, Mini.backR, Option.map_some, Mini.unpD, Mini.bindL, Mini.bindT, Mini.itemsD, Mini.recM, Mini.isNon, Mini.wOut, Mini.outsOf, Mini.own, List.take, true_and, and_true, if_true, Bool.false_eq_true, if_false, at3_0, at3_1, at3_2, at2_0, at2_1, ix3_0, ix3_1, ix3_2, List.length_cons, List.length_nil, List.set_cons_zero, List.set_cons_succ, Nat.zero_add, Nat.reduceAdd, sem_fdivS, sem_mulS, sem_mod]
        · simp only [wSs_cons, wSs_nil, wS_set, wS_unp, wS_sidx, wS_smt, wS_ex, wS_ret, wS_ite, wS_pass, wE_cst, wE_glb, wE_var, wE_sv, wE_mv, wE_rf, wE_frz, wE_op, wEs_nil, wEs_cons, wE_and, wE_or, wE_ite, wE_call, wE_bm, wE_pop, wK_none, wK_some, wR_seq, wR_rng1, wR_rng2, wR_zip, oS_some, bS_bl, iS_int, Mini.get, Mini.put, Mini.clear, Mini.back, Mini.scal, sem_neg, sem_not, sem_isN, sem_notN, sem_addI, sem_sub, sem_lt, sem_le, sem_gt, sem_ge, sem_eq, sem_ne, sem_in, sem_ni, sem_ixL, sem_ixT, sem_ixS, sem_lenL, sem_lenT, sem_lenS, sem_abs, sem_max2, sem_min2, sem_tupL, sem_tupT, sem_listL, sem_listT, sem_sorted, sem_all, sem_intB, sem_intI, sem_isL, sem_mkL0, sem_mkL1, sem_mkL2, sem_mkL3, sem_mkT0, sem_mkT1, sem_mkT2, sem_mkT3, Mini.isLst, Mini.fill, Mini.refs, Mini.ref1, Mini.backR, Option.map_some, Mini.unpD, Mini.bindL, Mini.bindT, Mini.itemsD, Mini.recM, Mini.isNon, Mini.wOut, Mini.outsOf, Mini.own, List.take, true_and, and_true, if_true, Bool.false_eq_true, if_false, at3_0, at3_1, at3_2, at2_0, at2_1, ix3_0, ix3_1, ix3_2, List.length_cons, List.length_nil, List.set_cons_zero, List.set_cons_succ, Nat.zero_add, Nat.reduceAdd, sem_fdivS, sem_mulS, sem_mod]
          rw [sem_cat (by rw [List.length_map, List.length_map, limE]; omega)]
          simp only [wSs_cons, wSs_nil, wS_set, wS_unp, wS_sidx, wS_smt, wS_ex, wS_ret, wS_ite, wS_pass, wE_cst, wE_glb, wE_var, wE_sv, wE_mv, wE_rf, wE_frz, wE_op, wEs_nil, wEs_cons, wE_and, wE_or, wE_ite, wE_call, wE_bm, wE_pop, wK_none, wK_some, wR_seq, wR_rng1, wR_rng2, wR_zip, oS_some, bS_bl, iS_int, Mini.get, Mini.put, Mini.clear, Mini.back, Mini.scal, sem_neg, sem_not, sem_isN, sem_notN, sem_addI, sem_sub, sem_lt, sem_le, sem_gt, sem_ge, sem_eq, sem_ne, sem_in, sem_ni, sem_ixL, sem_ixT, sem_ixS, sem_lenL, sem_lenT, sem_lenS, sem_abs, sem_max2, sem_min2, sem_tupL, sem_tupT, sem_listL, sem_listT, sem_sorted, sem_all, sem_intB, sem_intI, sem_isL, sem_mkL0, sem_mkL1, sem_mkL2, sem_mkL3, sem_mkT0, sem_mkT1, sem_mkT2, sem_mkT3, Mini.isLst, Mini.fill, Mini.refs, Mini.ref1, Mini.backR, Option.map_some, Mini.unpD, Mini.bindL, Mini.bindT, Mini.itemsD, Mini.recM, Mini.isNon, Mini.wOut, Mini.outsOf, Mini.own, List.take, true_and, and_true, if_true, Bool.false_eq_true, if_false, at3_0, at3_1, at3_2, at2_0, at2_1, ix3_0, ix3_1, ix3_2, List.length_cons, List.length_nil, List.set_cons_zero, List.set_cons_succ, Nat.zero_add, Nat.reduceAdd, sem_fdivS, sem_mulS, sem_mod]
          refine ⟨ly ++ ps.map (fun p => (p.1 + dn.prod * (0 + (i : Int)), p.2 + dn.prod * (0 + (i : Int)))), some (.int (0 + (i : Int))), ?_, ?_, ?_⟩
          · rw [List.map_append, List.map_map]
            rfl
          · rw [List.length_append, List.length_map, e6, Nat.add_mul]
            omega
          · have e7 : dn.prod * ((i + 1 : Nat) : Int) = dn.prod * (i : Int) + dn.prod := by
              rw [show ((i + 1 : Nat) : Int) = (i : Int) + 1 from by omega, Int.mul_add, Int.mul_one]
            rw [e7, Int.zero_add]
            exact hLy.more hH (Int.mul_nonneg (by omega) (by omega))
      · rintro s ⟨ly, k, rfl, e6, hLy⟩
        have hly : ly.length ≤ 5120 := by
          rw [e6]
          have := Nat.mul_le_mul (show x.toNat ≤ 32 by omega) (show ps.length ≤ 160 by omega)
          omega
        simp only [wSs_cons, wSs_nil, wS_set, wS_unp, wS_sidx, wS_smt, wS_ex, wS_ret, wS_ite, wS_pass, wE_cst, wE_glb, wE_var, wE_sv, wE_mv, wE_rf, wE_frz, wE_op, wEs_nil, wEs_cons, wE_and, wE_or, wE_ite, wE_call, wE_bm, wE_pop, wK_none, wK_some, wR_seq, wR_rng1, wR_rng2, wR_zip, oS_some, bS_bl, iS_int, Mini.get, Mini.put, Mini.clear, Mini.back, Mini.scal, sem_neg, sem_not, sem_isN, sem_notN, sem_addI, sem_sub, sem_lt, sem_le, sem_gt, sem_ge, sem_eq, sem_ne, sem_in, sem_ni, sem_ixL, sem_ixT, sem_ixS, sem_lenL, sem_lenT, sem_lenS, sem_abs, sem_max2, sem_min2, sem_tupL, sem_tupT, sem_listL, sem_listT, sem_sorted, sem_all, sem_intB, sem_intI, sem_isL, sem_mkL0, sem_mkL1, sem_mkL2, sem_mkL3, sem_mkT0, sem_mkT1, sem_mkT2, sem_mkT3, Mini.isLst, Mini.fill, Mini.refs, Mini.ref1, Mini.backR, Option.map_some, Mini.unpD, Mini.bindL, Mini.bindT, Mini.itemsD, Mini.recM, Mini.isNon, Mini.wOut, Mini.outsOf, Mini.own, List.take, true_and, and_true, if_true, Bool.false_eq_true, if_false, at3_0, at3_1, at3_2, at2_0, at2_1, ix3_0, ix3_1, ix3_2, List.length_cons, List.length_nil, List.set_cons_zero, List.set_cons_succ, Nat.zero_add, Nat.reduceAdd, sem_fdivS, sem_mulS, sem_mod]
        refine wE_comp ?_
        simp (disch := first | assumption | omega) only [wSs_cons, wSs_nil, wS_set, wS_unp, wS_sidx, wS_smt, wS_ex, wS_ret, wS_ite, wS_pass, wE_cst, wE_glb, wE_var, wE_sv, wE_mv, wE_rf, wE_frz, wE_op, wEs_nil, wEs_cons, wE_and, wE_or, wE_ite, wE_call, wE_bm, wE_pop, wK_none, wK_some, wR_seq, wR_rng1, wR_rng2, wR_zip, oS_some, bS_bl, iS_int, Mini.get, Mini.put, Mini.clear, Mini.back, Mini.scal, sem_neg, sem_not, sem_isN, sem_notN, sem_addI, sem_sub, sem_lt, sem_le, sem_gt, sem_ge, sem_eq, sem_ne, sem_in, sem_ni, sem_ixL, sem_ixT, sem_ixS, sem_lenL, sem_lenT, sem_lenS, sem_abs, sem_max2, sem_min2, sem_tupL, sem_tupT, sem_listL, sem_listT, sem_sorted, sem_all, sem_intB, sem_intI, sem_isL, sem_mkL0, sem_mkL1, sem_mkL2, sem_mkL3, sem_mkT0, sem_mkT1, sem_mkT2, sem_mkT3, Mini.isLst, Mini.fill, Mini.refs, Mini.ref1, Mini.backR, Option.map_some, Mini.unpD, Mini.bindL, Mini.bindT, Mini.itemsD, Mini.recM, Mini.isNon, Mini.wOut, Mini.outsOf, Mini.own, List.take, true_and, and_true, if_true, Bool.false_eq_true, if_false, at3_0, at3_1, at3_2, at2_0, at2_1, ix3_0, ix3_1, ix3_2, List.length_cons, List.length_nil, List.set_cons_zero, List.set_cons_succ, Nat.zero_add, Nat.reduceAdd, sem_fdivS, sem_mulS, sem_mod]
        have hq : 0 ≤ dn.prod * (x - 1) ∧ dn.prod * (x - 1) ≤ 32 := by
          have e : dn.prod * (x - 1) = dn.prod * x - dn.prod := by rw [Int.mul_sub, Int.mul_one]
          have := Int.mul_le_mul_of_nonneg_left hx (show 0 ≤ dn.prod by omega)
          omega
        refine ⟨by omega, ?_⟩
        rw [rngD_rg]
        refine comp_map (rg 0 _) D.int (fun h => prD (h, h + dn.prod)) (by rw [limE, rg_len]; omega) (fun p hp => ?_) ?_
        · simp (disch := first | assumption | omega) only [prD, wSs_cons, wSs_nil, wS_set, wS_unp, wS_sidx, wS_smt, wS_ex, wS_ret, wS_ite, wS_pass, wE_cst, wE_glb, wE_var, wE_sv, wE_mv, wE_rf, wE_frz, wE_op, wEs_nil, wEs_cons, wE_and, wE_or, wE_ite, wE_call, wE_bm, wE_pop, wK_none, wK_some, wR_seq, wR_rng1, wR_rng2, wR_zip, oS_some, bS_bl, iS_int, Mini.get, Mini.put, Mini.clear, Mini.back, Mini.scal, sem_neg, sem_not, sem_isN, sem_notN, sem_addI, sem_sub, sem_lt, sem_le, sem_gt, sem_ge, sem_eq, sem_ne, sem_in, sem_ni, sem_ixL, sem_ixT, sem_ixS, sem_lenL, sem_lenT, sem_lenS, sem_abs, sem_max2, sem_min2, sem_tupL, sem_tupT, sem_listL, sem_listT, sem_sorted, sem_all, sem_intB, sem_intI, sem_isL, sem_mkL0, sem_mkL1, sem_mkL2, sem_mkL3, sem_mkT0, sem_mkT1, sem_mkT2, sem_mkT3, Mini.isLst, Mini.fill, Mini.refs, Mini.ref1, Mini.backR, Option.map_some, Mini.unpD, Mini.bindL, Mini.bindT, Mini.itemsD, Mini.recM, Mini.isNon, Mini.wOut, Mini.outsOf, Mini.own, List.take, true_and, and_true, if_true, Bool.false_eq_true, if_false, at3_0, at3_1, at3_2, at2_0, at2_1, ix3_0, ix3_1, ix3_2, List.length_cons, List.length_nil, List.set_cons_zero, List.set_cons_succ, Nat.zero_add, Nat.reduceAdd, sem_fdivS, sem_mulS, sem_mod]
        · simp only [wSs_cons, wSs_nil, wS_set, wS_unp, wS_sidx, wS_smt, wS_ex, wS_ret, wS_ite, wS_pass, wE_cst, wE_glb, wE_var, wE_sv, wE_mv, wE_rf, wE_frz, wE_op, wEs_nil, wEs_cons, wE_and, wE_or, wE_ite, wE_call, wE_bm, wE_pop, wK_none, wK_some, wR_seq, wR_rng1, wR_rng2, wR_zip, oS_some, bS_bl, iS_int, Mini.get, Mini.put, Mini.clear, Mini.back, Mini.scal, sem_neg, sem_not, sem_isN, sem_notN, sem_addI, sem_sub, sem_lt, sem_le, sem_gt, sem_ge, sem_eq, sem_ne, sem_in, sem_ni, sem_ixL, sem_ixT, sem_ixS, sem_lenL, sem_lenT, sem_lenS, sem_abs, sem_max2, sem_min2, sem_tupL, sem_tupT, sem_listL, sem_listT, sem_sorted, sem_all, sem_intB, sem_intI, sem_isL, sem_mkL0, sem_mkL1, sem_mkL2, sem_mkL3, sem_mkT0, sem_mkT1, sem_mkT2, sem_mkT3, Mini.isLst, Mini.fill, Mini.refs, Mini.ref1, Mini.backR, Option.map_some, Mini.unpD, Mini.bindL, Mini.bindT, Mini.itemsD, Mini.recM, Mini.isNon, Mini.wOut, Mini.outsOf, Mini.own, List.take, true_and, and_true, if_true, Bool.false_eq_true, if_false, at3_0, at3_1, at3_2, at2_0, at2_1, ix3_0, ix3_1, ix3_2, List.length_cons, List.length_nil, List.set_cons_zero, List.set_cons_succ, Nat.zero_add, Nat.reduceAdd, sem_fdivS, sem_mulS, sem_mod]
          rw [sem_cat (by rw [List.length_map, List.length_map, limE, rg_len]; omega)]
          simp (disch := first | assumption | omega) only [wSs_cons, wSs_nil, wS_set, wS_unp, wS_sidx, wS_smt, wS_ex, wS_ret, wS_ite, wS_pass, wE_cst, wE_glb, wE_var, wE_sv, wE_mv, wE_rf, wE_frz, wE_op, wEs_nil, wEs_cons, wE_and, wE_or, wE_ite, wE_call, wE_bm, wE_pop, wK_none, wK_some, wR_seq, wR_rng1, wR_rng2, wR_zip, oS_some, bS_bl, iS_int, Mini.get, Mini.put, Mini.clear, Mini.back, Mini.scal, sem_neg, sem_not, sem_isN, sem_notN, sem_addI, sem_sub, sem_lt, sem_le, sem_gt, sem_ge, sem_eq, sem_ne, sem_in, sem_ni, sem_ixL, sem_ixT, sem_ixS, sem_lenL, sem_lenT, sem_lenS, sem_abs, sem_max2, sem_min2, sem_tupL, sem_tupT, sem_listL, sem_listT, sem_sorted, sem_all, sem_intB, sem_intI, sem_isL, sem_mkL0, sem_mkL1, sem_mkL2, sem_mkL3, sem_mkT0, sem_mkT1, sem_mkT2, sem_mkT3, Mini.isLst, Mini.fill, Mini.refs, Mini.ref1, Mini.backR, Option.map_some, Mini.unpD, Mini.bindL, Mini.bindT, Mini.itemsD, Mini.recM, Mini.isNon, Mini.wOut, Mini.outsOf, Mini.own, List.take, true_and, and_true, if_true, Bool.false_eq_true, if_false, at3_0, at3_1, at3_2, at2_0, at2_1, ix3_0, ix3_1, ix3_2, List.length_cons, List.length_nil, List.set_cons_zero, List.set_cons_succ, Nat.zero_add, Nat.reduceAdd, sem_fdivS, sem_mulS, sem_mod]
          refine ⟨dn ++ [x], rs, ly ++ (rg 0 (dn.prod * (x - 1)).toNat).map (fun h => (h, h + dn.prod)), some (.int x), some (.lst (ly.map prD)), k, ?_, rfl, ?_, ?_, ?_⟩
          · rw [e1, List.append_assoc]; rfl
          · rw [List.map_append, List.map_map, List.prod_append, List.prod_singleton]
            rfl
          · rw [List.length_append, List.length_map, rg_len, e6, List.prod_append, List.prod_singleton, List.length_append]
            have e8 : dn.prod * (x - 1) = dn.prod * x - dn.prod := by rw [Int.mul_sub, Int.mul_one]
            have e9 : (((x.toNat * ps.length : Nat)) : Int) = x * (ps.length : Int) := by
              rw [Int.natCast_mul]
              congr 1
              omega
            have e10 : x * (ps.length : Int) ≤ x * (dn.prod * dn.length) := Int.mul_le_mul_of_nonneg_left e3 (by omega)
            have e11 : x * (dn.prod * (dn.length : Int)) = dn.prod * x * (dn.length : Int) := by rw [← Int.mul_assoc, Int.mul_comm x]
            have e12 : dn.prod * x * ((dn.length + [x].length : Nat) : Int) = dn.prod * x * (dn.length : Int) + dn.prod * x := by
              rw [show ((dn.length + [x].length : Nat) : Int) = (dn.length : Int) + 1 from by simp, Int.mul_add, Int.mul_one]
            rw [Int.natCast_add, e9, e12]
            omega
          · have e8 : dn.prod * (x - 1) = dn.prod * x - dn.prod := by rw [Int.mul_sub, Int.mul_one]
            have e13 : (x.toNat : Int) = x := by omega
            rw [e13] at hLy
            rw [List.prod_append, List.prod_singleton]
            exact hLy.last hd (by omega)
  · rintro s ⟨dn, rs, ps, a, b, c, e1, e2, rfl, e3, hH⟩
    have : rs = [] := by
      cases rs with
      | nil => rfl
      | cons _ _ => cases e2
    subst this
    rw [List.append_nil] at e1
    subst e1
    simp only [wSs_cons, wSs_nil, wS_set, wS_unp, wS_sidx, wS_smt, wS_ex, wS_ret, wS_ite, wS_pass, wE_cst, wE_glb, wE_var, wE_sv, wE_mv, wE_rf, wE_frz, wE_op, wEs_nil, wEs_cons, wE_and, wE_or, wE_ite, wE_call, wE_bm, wE_pop, wK_none, wK_some, wR_seq, wR_rng1, wR_rng2, wR_zip, oS_some, bS_bl, iS_int, Mini.get, Mini.put, Mini.clear, Mini.back, Mini.scal, sem_neg, sem_not, sem_isN, sem_notN, sem_addI, sem_sub, sem_lt, sem_le, sem_gt, sem_ge, sem_eq, sem_ne, sem_in, sem_ni, sem_ixL, sem_ixT, sem_ixS, sem_lenL, sem_lenT, sem_lenS, sem_abs, sem_max2, sem_min2, sem_tupL, sem_tupT, sem_listL, sem_listT, sem_sorted, sem_all, sem_intB, sem_intI, sem_isL, sem_mkL0, sem_mkL1, sem_mkL2, sem_mkL3, sem_mkT0, sem_mkT1, sem_mkT2, sem_mkT3, Mini.isLst, Mini.fill, Mini.refs, Mini.ref1, Mini.backR, Option.map_some, Mini.unpD, Mini.bindL, Mini.bindT, Mini.itemsD, Mini.recM, Mini.isNon, Mini.wOut, Mini.outsOf, Mini.own, List.take, true_and, and_true, if_true, Bool.false_eq_true, if_false, at3_0, at3_1, at3_2, at2_0, at2_1, ix3_0, ix3_1, ix3_2, List.length_cons, List.length_nil, List.set_cons_zero, List.set_cons_succ, Nat.zero_add, Nat.reduceAdd, sem_fdivS, sem_mulS, sem_mod]
    refine ⟨ps, rfl, ?_, hH⟩
    have h4 : 1 ≤ l.prod := prod_pos h1
    have : l.prod * (l.length : Int) ≤ 32 * 5 := Int.mul_le_mul h2 (by omega) (by omega) (by omega)
    omega
end Lk51

namespace Lk51
open Mini
theorem at_ints {t : List Int} {x : Int} (h0 : 0 ≤ x) (h : x < t.length) : atD (t.map .int) x = some (.int (t.getD x.toNat 0)) := by
  refine atD_int h0 ?_
  rw [List.getElem?_map, List.getD_eq_getElem?_getD]
  have : x.toNat < t.length := by omega
  rw [List.getElem?_eq_getElem this]
  rfl
theorem getD_set {t : List Int} {o j : Nat} {v : Int} (h : o < t.length) : (t.set o v).getD j 0 = if j = o then v else t.getD j 0 := by
  rw [List.getD_eq_getElem?_getD, List.getElem?_set]
  by_cases e : o = j
  · subst e
    simp [h]
  · rw [if_neg e, if_neg (Ne.symm e), List.getD_eq_getElem?_getD]
theorem set_ints {t : List Int} {o : Nat} {v : Int} : (t.map D.int).set o (.int v) = (t.set o v).map .int := by
  rw [List.map_set]
theorem app_prs {l : List (Int × Int)} {x y : Int} (h : l.length < 1000000) : mopD .append (l.map prD) [.tup [.int x, .int y]] = some ((l ++ [(x, y)]).map prD) := by
  rw [mop_app (by rw [List.length_map]; exact h), List.map_append]
  rfl
theorem getD_mem {α : Type} {l : List α} {d : α} {k : Nat} (h : k < l.length) : l.getD k d ∈ l := by
  rw [List.getD_eq_getElem?_getD, List.getElem?_eq_getElem h]
  exact List.getElem_mem h
theorem rep_int {m : Nat} : (List.replicate m [D.int 0]).flatten = (List.replicate m (0 : Int)).map .int := by
  induction m with
  | zero => rfl
  | succ m ih =>
    rw [List.replicate_succ, List.replicate_succ, List.flatten_cons, List.map_cons, ih]
    rfl
def sAt : Ss → Nat → S
  | .nil, _ => .pass
  | .cons a _, 0 => a
  | .cons _ as, n + 1 => sAt as n
def forB : S → Ss
  | .for_ _ _ _ b => b
  | _ => .nil
def TI (many : Int) (i : Nat) (s : Sl) : Prop := ∃ (a b c : Int) (ps : List (Int × Int)) (t : List Int) (x4 x5 x6 : Option D), s = [some (pot a b c), some (.int many), some (.lst (ps.map prD)), some (.lst (t.map .int)), x4, x5, x6] ∧ ps.length = i ∧ t.length = many.toNat ∧ t.getD i 0 ≤ 1 ∧ (∀ j, i < j → t.getD j 0 = 0) ∧ Hlf ((i : Int) + 1) ps
theorem tree_step (n : Nat) (many : Int) (h1 : 2 ≤ many) (h2 : many ≤ 32) (kr : D → Sl → Prop) (i : Nat) (s : Sl) (hi : i < (many - 1).toNat) (h : TI many i s) : oS (bindT [4] false (.int (1 + (i : Int))) s) fun s1 => wSs (callF fds (n + 1)) (forB (sAt f6.body 2)) s1 (TI many (i + 1)) kr := by
  simp only [f6, sAt, forB]
  obtain ⟨a, b, c, ps, t, x4, x5, x6, hs, e1, e2, h⟩ := h
  obtain ⟨e3, e4, hH⟩ := h
  subst hs
  have _tt : True := trivial
  simp (maxSteps := 2000000) (disch := first | assumption | omega) only [wSs_nil, wS_set, wS_unp, wS_sidx, wS_smt, wS_ex, wS_ret, wS_ite, wS_pass, wE_cst, wE_glb, wE_var, wE_sv, wE_mv, wE_rf, wE_frz, wE_op, wEs_nil, wEs_cons, wE_and, wE_or, wE_ite, wE_call, wE_bm, wE_pop, wK_none, wK_some, wR_seq, wR_rng1, wR_rng2, wR_zip, oS_some, bS_bl, iS_int, Mini.get, Mini.put, Mini.clear, Mini.back, Mini.scal, sem_neg, sem_not, sem_isN, sem_notN, sem_addI, sem_sub, sem_lt, sem_le, sem_gt, sem_ge, sem_eq, sem_ne, sem_in, sem_ni, sem_ixL, sem_ixT, sem_ixS, sem_lenL, sem_lenT, sem_lenS, sem_abs, sem_max2, sem_min2, sem_tupL, sem_tupT, sem_listL, sem_listT, sem_sorted, sem_all, sem_intB, sem_intI, sem_isL, sem_mkL0, sem_mkL1, sem_mkL2, sem_mkL3, sem_mkT0, sem_mkT1, sem_mkT2, sem_mkT3, Mini.isLst, Mini.fill, Mini.refs, Mini.ref1, Mini.backR, Option.map_some, Mini.unpD, Mini.bindL, Mini.bindT, Mini.itemsD, Mini.recM, Mini.isNon, Mini.wOut, Mini.outsOf, Mini.own, List.take, true_and, and_true, if_true, Bool.false_eq_true, if_false, at3_0, at3_1, at3_2, at2_0, at2_1, ix3_0, ix3_1, ix3_2, List.length_cons, List.length_nil, List.set_cons_zero, List.set_cons_succ, Nat.zero_add, Nat.reduceAdd, sem_fdivS, sem_mulS, sem_mod]
  (rw [wSs_cons]; simp (maxSteps := 2000000) (disch := first | assumption | omega) only [wSs_nil, wS_set, wS_unp, wS_sidx, wS_smt, wS_ex, wS_ret, wS_ite, wS_pass, wE_cst, wE_glb, wE_var, wE_sv, wE_mv, wE_rf, wE_frz, wE_op, wEs_nil, wEs_cons, wE_and, wE_or, wE_ite, wE_call, wE_bm, wE_pop, wK_none, wK_some, wR_seq, wR_rng1, wR_rng2, wR_zip, oS_some, bS_bl, iS_int, Mini.get, Mini.put, Mini.clear, Mini.back, Mini.scal, sem_neg, sem_not, sem_isN, sem_notN, sem_addI, sem_sub, sem_lt, sem_le, sem_gt, sem_ge, sem_eq, sem_ne, sem_in, sem_ni, sem_ixL, sem_ixT, sem_ixS, sem_lenL, sem_lenT, sem_lenS, sem_abs, sem_max2, sem_min2, sem_tupL, sem_tupT, sem_listL, sem_listT, sem_sorted, sem_all, sem_intB, sem_intI, sem_isL, sem_mkL0, sem_mkL1, sem_mkL2, sem_mkL3, sem_mkT0, sem_mkT1, sem_mkT2, sem_mkT3, Mini.isLst, Mini.fill, Mini.refs, Mini.ref1, Mini.backR, Option.map_some, Mini.unpD, Mini.bindL, Mini.bindT, Mini.itemsD, Mini.recM, Mini.isNon, Mini.wOut, Mini.outsOf, Mini.own, List.take, true_and, and_true, if_true, Bool.false_eq_true, if_false, at3_0, at3_1, at3_2, at2_0, at2_1, ix3_0, ix3_1, ix3_2, List.length_cons, List.length_nil, List.set_cons_zero, List.set_cons_succ, Nat.zero_add, Nat.reduceAdd, sem_fdivS, sem_mulS, sem_mod])
  refine wE_comp ?_
  simp only [wSs_nil, wS_set, wS_unp, wS_sidx, wS_smt, wS_ex, wS_ret, wS_ite, wS_pass, wE_cst, wE_glb, wE_var, wE_sv, wE_mv, wE_rf, wE_frz, wE_op, wEs_nil, wEs_cons, wE_and, wE_or, wE_ite, wE_call, wE_bm, wE_pop, wK_none, wK_some, wR_seq, wR_rng1, wR_rng2, wR_zip, oS_some, bS_bl, iS_int, Mini.get, Mini.put, Mini.clear, Mini.back, Mini.scal, sem_neg, sem_not, sem_isN, sem_notN, sem_addI, sem_sub, sem_lt, sem_le, sem_gt, sem_ge, sem_eq, sem_ne, sem_in, sem_ni, sem_ixL, sem_ixT, sem_ixS, sem_lenL, sem_lenT, sem_lenS, sem_abs, sem_max2, sem_min2, sem_tupL, sem_tupT, sem_listL, sem_listT, sem_sorted, sem_all, sem_intB, sem_intI, sem_isL, sem_mkL0, sem_mkL1, sem_mkL2, sem_mkL3, sem_mkT0, sem_mkT1, sem_mkT2, sem_mkT3, Mini.isLst, Mini.fill, Mini.refs, Mini.ref1, Mini.backR, Option.map_some, Mini.unpD, Mini.bindL, Mini.bindT, Mini.itemsD, Mini.recM, Mini.isNon, Mini.wOut, Mini.outsOf, Mini.own, List.take, true_and, and_true, if_true, Bool.false_eq_true, if_false, at3_0, at3_1, at3_2, at2_0, at2_1, ix3_0, ix3_1, ix3_2, List.length_cons, List.length_nil, List.set_cons_zero, List.set_cons_succ, Nat.zero_add, Nat.reduceAdd, sem_fdivS, sem_mulS, sem_mod]
  refine ⟨by omega, ?_⟩
  rw [rngD_rg]
  refine comp_fm (rg 0 (1 + (i : Int)).toNat) D.int (fun x => decide (t.getD x.toNat 0 < 7)) D.int (by rw [limE, rg_len]; omega) (fun x hx => ?_) ?_
  · obtain ⟨g1, g2⟩ := rg_mem hx
    have e := at_ints (t := t) (x := x) g1 (by omega)
    simp only [e, wSs_cons, wSs_nil, wS_set, wS_unp, wS_sidx, wS_smt, wS_ex, wS_ret, wS_ite, wS_pass, wE_cst, wE_glb, wE_var, wE_sv, wE_mv, wE_rf, wE_frz, wE_op, wEs_nil, wEs_cons, wE_and, wE_or, wE_ite, wE_call, wE_bm, wE_pop, wK_none, wK_some, wR_seq, wR_rng1, wR_rng2, wR_zip, oS_some, bS_bl, iS_int, Mini.get, Mini.put, Mini.clear, Mini.back, Mini.scal, sem_neg, sem_not, sem_isN, sem_notN, sem_addI, sem_sub, sem_lt, sem_le, sem_gt, sem_ge, sem_eq, sem_ne, sem_in, sem_ni, sem_ixL, sem_ixT, sem_ixS, sem_lenL, sem_lenT, sem_lenS, sem_abs, sem_max2, sem_min2, sem_tupL, sem_tupT, sem_listL, sem_listT, sem_sorted, sem_all, sem_intB, sem_intI, sem_isL, sem_mkL0, sem_mkL1, sem_mkL2, sem_mkL3, sem_mkT0, sem_mkT1, sem_mkT2, sem_mkT3, Mini.isLst, Mini.fill, Mini.refs, Mini.ref1, Mini.backR, Option.map_some, Mini.unpD, Mini.bindL, Mini.bindT, Mini.itemsD, Mini.recM, Mini.isNon, Mini.wOut, Mini.outsOf, Mini.own, List.take, true_and, and_true, if_true, Bool.false_eq_true, if_false, at3_0, at3_1, at3_2, at2_0, at2_1, ix3_0, ix3_1, ix3_2, List.length_cons, List.length_nil, List.set_cons_zero, List.set_cons_succ, Nat.zero_add, Nat.reduceAdd, sem_fdivS, sem_mulS, sem_mod]
    split <;> first | trivial | exact ⟨trivial, trivial⟩
  · generalize hsm : (rg 0 (1 + (i : Int)).toNat).filter (fun x => decide (t.getD x.toNat 0 < 7)) = sm
    have hmem : (i : Int) ∈ sm := by
      rw [← hsm]
      refine List.mem_filter.mpr ⟨?_, ?_⟩
      · unfold rg
        refine List.mem_map.mpr ⟨i, List.mem_range.mpr (by omega), by omega⟩
      · refine decide_eq_true ?_
        rw [Int.toNat_natCast]
        omega
    have hpos : 0 < sm.length := List.length_pos_of_mem hmem
    have hle : sm.length ≤ 32 := by
      rw [← hsm]
      refine Nat.le_trans (List.length_filter_le _ _) ?_
      rw [rg_len]
      omega
    simp (maxSteps := 2000000) (disch := first | assumption | omega) only [wSs_nil, wS_set, wS_unp, wS_sidx, wS_smt, wS_ex, wS_ret, wS_ite, wS_pass, wE_cst, wE_glb, wE_var, wE_sv, wE_mv, wE_rf, wE_frz, wE_op, wEs_nil, wEs_cons, wE_and, wE_or, wE_ite, wE_call, wE_bm, wE_pop, wK_none, wK_some, wR_seq, wR_rng1, wR_rng2, wR_zip, oS_some, bS_bl, iS_int, Mini.get, Mini.put, Mini.clear, Mini.back, Mini.scal, sem_neg, sem_not, sem_isN, sem_notN, sem_addI, sem_sub, sem_lt, sem_le, sem_gt, sem_ge, sem_eq, sem_ne, sem_in, sem_ni, sem_ixL, sem_ixT, sem_ixS, sem_lenL, sem_lenT, sem_lenS, sem_abs, sem_max2, sem_min2, sem_tupL, sem_tupT, sem_listL, sem_listT, sem_sorted, sem_all, sem_intB, sem_intI, sem_isL, sem_mkL0, sem_mkL1, sem_mkL2, sem_mkL3, sem_mkT0, sem_mkT1, sem_mkT2, sem_mkT3, Mini.isLst, Mini.fill, Mini.refs, Mini.ref1, Mini.backR, Option.map_some, Mini.unpD, Mini.bindL, Mini.bindT, Mini.itemsD, Mini.recM, Mini.isNon, Mini.wOut, Mini.outsOf, Mini.own, List.take, true_and, and_true, if_true, Bool.false_eq_true, if_false, at3_0, at3_1, at3_2, at2_0, at2_1, ix3_0, ix3_1, ix3_2, List.length_cons, List.length_nil, List.set_cons_zero, List.set_cons_succ, Nat.zero_add, Nat.reduceAdd, sem_fdivS, sem_mulS, sem_mod]
    (rw [wSs_cons]; simp (maxSteps := 2000000) (disch := first | assumption | omega) only [List.length_map, wSs_nil, wS_set, wS_unp, wS_sidx, wS_smt, wS_ex, wS_ret, wS_ite, wS_pass, wE_cst, wE_glb, wE_var, wE_sv, wE_mv, wE_rf, wE_frz, wE_op, wEs_nil, wEs_cons, wE_and, wE_or, wE_ite, wE_call, wE_bm, wE_pop, wK_none, wK_some, wR_seq, wR_rng1, wR_rng2, wR_zip, oS_some, bS_bl, iS_int, Mini.get, Mini.put, Mini.clear, Mini.back, Mini.scal, sem_neg, sem_not, sem_isN, sem_notN, sem_addI, sem_sub, sem_lt, sem_le, sem_gt, sem_ge, sem_eq, sem_ne, sem_in, sem_ni, sem_ixL, sem_ixT, sem_ixS, sem_lenL, sem_lenT, sem_lenS, sem_abs, sem_max2, sem_min2, sem_tupL, sem_tupT, sem_listL, sem_listT, sem_sorted, sem_all, sem_intB, sem_intI, sem_isL, sem_mkL0, sem_mkL1, sem_mkL2, sem_mkL3, sem_mkT0, sem_mkT1, sem_mkT2, sem_mkT3, Mini.isLst, Mini.fill, Mini.refs, Mini.ref1, Mini.backR, Option.map_some, Mini.unpD, Mini.bindL, Mini.bindT, Mini.itemsD, Mini.recM, Mini.isNon, Mini.wOut, Mini.outsOf, Mini.own, List.take, true_and, and_true, if_true, Bool.false_eq_true, if_false, at3_0, at3_1, at3_2, at2_0, at2_1, ix3_0, ix3_1, ix3_2, List.length_cons, List.length_nil, List.set_cons_zero, List.set_cons_succ, Nat.zero_add, Nat.reduceAdd, sem_fdivS, sem_mulS, sem_mod])
    refine wC_mono (take_ok n a b c _ (by omega) (by omega)) ?_
    rintro d os ⟨r, a', b', c', rfl, r1, r2, rfl⟩
    have er := at_ints (t := sm) (x := r) r1 r2
    generalize ho : sm.getD r.toNat 0 = o at er
    have hom : o ∈ sm := by
      rw [← ho]
      exact getD_mem (by omega)
    obtain ⟨o1, o2⟩ : 0 ≤ o ∧ o < 1 + (i : Int) := by
      rw [← hsm] at hom
      have := rg_mem (List.mem_filter.mp hom).1
      omega
    have et := at_ints (t := t) (x := o) o1 (by omega)
    have ei := ixN_int (n := t.length) o1 (by omega)
    have et2 := at_ints (t := t.set o.toNat (t.getD o.toNat 0 + 1)) (x := 1 + (i : Int)) (by omega) (by rw [List.length_set]; omega)
    have ei2 := ixN_int (n := t.length) (i := 1 + (i : Int)) (by omega) (by omega)
    simp (maxSteps := 2000000) (disch := first | assumption | omega) only [er, wSs_nil, wS_set, wS_unp, wS_sidx, wS_smt, wS_ex, wS_ret, wS_ite, wS_pass, wE_cst, wE_glb, wE_var, wE_sv, wE_mv, wE_rf, wE_frz, wE_op, wEs_nil, wEs_cons, wE_and, wE_or, wE_ite, wE_call, wE_bm, wE_pop, wK_none, wK_some, wR_seq, wR_rng1, wR_rng2, wR_zip, oS_some, bS_bl, iS_int, Mini.get, Mini.put, Mini.clear, Mini.back, Mini.scal, sem_neg, sem_not, sem_isN, sem_notN, sem_addI, sem_sub, sem_lt, sem_le, sem_gt, sem_ge, sem_eq, sem_ne, sem_in, sem_ni, sem_ixL, sem_ixT, sem_ixS, sem_lenL, sem_lenT, sem_lenS, sem_abs, sem_max2, sem_min2, sem_tupL, sem_tupT, sem_listL, sem_listT, sem_sorted, sem_all, sem_intB, sem_intI, sem_isL, sem_mkL0, sem_mkL1, sem_mkL2, sem_mkL3, sem_mkT0, sem_mkT1, sem_mkT2, sem_mkT3, Mini.isLst, Mini.fill, Mini.refs, Mini.ref1, Mini.backR, Option.map_some, Mini.unpD, Mini.bindL, Mini.bindT, Mini.itemsD, Mini.recM, Mini.isNon, Mini.wOut, Mini.outsOf, Mini.own, List.take, true_and, and_true, if_true, Bool.false_eq_true, if_false, at3_0, at3_1, at3_2, at2_0, at2_1, ix3_0, ix3_1, ix3_2, List.length_cons, List.length_nil, List.set_cons_zero, List.set_cons_succ, Nat.zero_add, Nat.reduceAdd, sem_fdivS, sem_mulS, sem_mod]
    (rw [wSs_cons]; simp (maxSteps := 2000000) (disch := first | assumption | omega) only [app_prs, wSs_nil, wS_set, wS_unp, wS_sidx, wS_smt, wS_ex, wS_ret, wS_ite, wS_pass, wE_cst, wE_glb, wE_var, wE_sv, wE_mv, wE_rf, wE_frz, wE_op, wEs_nil, wEs_cons, wE_and, wE_or, wE_ite, wE_call, wE_bm, wE_pop, wK_none, wK_some, wR_seq, wR_rng1, wR_rng2, wR_zip, oS_some, bS_bl, iS_int, Mini.get, Mini.put, Mini.clear, Mini.back, Mini.scal, sem_neg, sem_not, sem_isN, sem_notN, sem_addI, sem_sub, sem_lt, sem_le, sem_gt, sem_ge, sem_eq, sem_ne, sem_in, sem_ni, sem_ixL, sem_ixT, sem_ixS, sem_lenL, sem_lenT, sem_lenS, sem_abs, sem_max2, sem_min2, sem_tupL, sem_tupT, sem_listL, sem_listT, sem_sorted, sem_all, sem_intB, sem_intI, sem_isL, sem_mkL0, sem_mkL1, sem_mkL2, sem_mkL3, sem_mkT0, sem_mkT1, sem_mkT2, sem_mkT3, Mini.isLst, Mini.fill, Mini.refs, Mini.ref1, Mini.backR, Option.map_some, Mini.unpD, Mini.bindL, Mini.bindT, Mini.itemsD, Mini.recM, Mini.isNon, Mini.wOut, Mini.outsOf, Mini.own, List.take, true_and, and_true, if_true, Bool.false_eq_true, if_false, at3_0, at3_1, at3_2, at2_0, at2_1, ix3_0, ix3_1, ix3_2, List.length_cons, List.length_nil, List.set_cons_zero, List.set_cons_succ, Nat.zero_add, Nat.reduceAdd, sem_fdivS, sem_mulS, sem_mod])
    (rw [wSs_cons]; simp (maxSteps := 2000000) (disch := first | assumption | omega) only [et, ei, set_ints, List.length_map, List.length_set, wSs_nil, wS_set, wS_unp, wS_sidx, wS_smt, wS_ex, wS_ret, wS_ite, wS_pass, wE_cst, wE_glb, wE_var, wE_sv, wE_mv, wE_rf, wE_frz, wE_op, wEs_nil, wEs_cons, wE_and, wE_or, wE_ite, wE_call, wE_bm, wE_pop, wK_none, wK_some, wR_seq, wR_rng1, wR_rng2, wR_zip, oS_some, bS_bl, iS_int, Mini.get, Mini.put, Mini.clear, Mini.back, Mini.scal, sem_neg, sem_not, sem_isN, sem_notN, sem_addI, sem_sub, sem_lt, sem_le, sem_gt, sem_ge, sem_eq, sem_ne, sem_in, sem_ni, sem_ixL, sem_ixT, sem_ixS, sem_lenL, sem_lenT, sem_lenS, sem_abs, sem_max2, sem_min2, sem_tupL, sem_tupT, sem_listL, sem_listT, sem_sorted, sem_all, sem_intB, sem_intI, sem_isL, sem_mkL0, sem_mkL1, sem_mkL2, sem_mkL3, sem_mkT0, sem_mkT1, sem_mkT2, sem_mkT3, Mini.isLst, Mini.fill, Mini.refs, Mini.ref1, Mini.backR, Option.map_some, Mini.unpD, Mini.bindL, Mini.bindT, Mini.itemsD, Mini.recM, Mini.isNon, Mini.wOut, Mini.outsOf, Mini.own, List.take, true_and, and_true, if_true, Bool.false_eq_true, if_false, at3_0, at3_1, at3_2, at2_0, at2_1, ix3_0, ix3_1, ix3_2, List.length_cons, List.length_nil, List.set_cons_zero, List.set_cons_succ, Nat.zero_add, Nat.reduceAdd, sem_fdivS, sem_mulS, sem_mod])
    (rw [wSs_cons]; simp (maxSteps := 2000000) (disch := first | assumption | omega) only [et2, ei2, set_ints, List.length_map, List.length_set, wSs_nil, wS_set, wS_unp, wS_sidx, wS_smt, wS_ex, wS_ret, wS_ite, wS_pass, wE_cst, wE_glb, wE_var, wE_sv, wE_mv, wE_rf, wE_frz, wE_op, wEs_nil, wEs_cons, wE_and, wE_or, wE_ite, wE_call, wE_bm, wE_pop, wK_none, wK_some, wR_seq, wR_rng1, wR_rng2, wR_zip, oS_some, bS_bl, iS_int, Mini.get, Mini.put, Mini.clear, Mini.back, Mini.scal, sem_neg, sem_not, sem_isN, sem_notN, sem_addI, sem_sub, sem_lt, sem_le, sem_gt, sem_ge, sem_eq, sem_ne, sem_in, sem_ni, sem_ixL, sem_ixT, sem_ixS, sem_lenL, sem_lenT, sem_lenS, sem_abs, sem_max2, sem_min2, sem_tupL, sem_tupT, sem_listL, sem_listT, sem_sorted, sem_all, sem_intB, sem_intI, sem_isL, sem_mkL0, sem_mkL1, sem_mkL2, sem_mkL3, sem_mkT0, sem_mkT1, sem_mkT2, sem_mkT3, Mini.isLst, Mini.fill, Mini.refs, Mini.ref1, Mini.backR, Option.map_some, Mini.unpD, Mini.bindL, Mini.bindT, Mini.itemsD, Mini.recM, Mini.isNon, Mini.wOut, Mini.outsOf, Mini.own, List.take, true_and, and_true, if_true, Bool.false_eq_true, if_false, at3_0, at3_1, at3_2, at2_0, at2_1, ix3_0, ix3_1, ix3_2, List.length_cons, List.length_nil, List.set_cons_zero, List.set_cons_succ, Nat.zero_add, Nat.reduceAdd, sem_fdivS, sem_mulS, sem_mod])
    have ho' : o.toNat < t.length := by omega
    have hi1 : (1 + (i : Int)).toNat = i + 1 := by omega
    rw [hi1]
    refine ⟨a', b', c', ps ++ [(o, 1 + (i : Int))], _, _, _, _, rfl, by simp [e1], by simp [e2], ?_, fun j hj => ?_, ?_⟩
    · rw [getD_set (by rw [List.length_set]; omega), if_pos rfl, getD_set ho', if_neg (by omega), e4 (i + 1) (by omega)]
      omega
    · rw [getD_set (by rw [List.length_set]; omega), if_neg (by omega), getD_set ho', if_neg (by omega)]
      exact e4 j (by omega)
    · refine (hH.weak (k := ((i + 1 : Nat) : Int) + 1) (by omega)).snoc (fun z => ?_) o1 o2 (by omega)
      have := hH.2 _ z
      simp only at this
      omega
theorem tree_ok (n : Nat) (a b c many : Int) (h1 : 2 ≤ many) (h2 : many ≤ 32) : wC (callF fds (n + 2) 6 [pot a b c, .int many]) fun d os => ∃ (ps : List (Int × Int)) (a' b' c' : Int), d = .lst (ps.map prD) ∧ ps.length ≤ 1000 ∧ Hlf many ps ∧ os = [some (pot a' b' c'), none] := by
  refine wC_call (fd := f6) rfl rfl ?_
  show wSs (callF fds (n + 1)) f6.body [some (pot a b c), some (.int many), none, none, none, none, none] _ _
  have hrep : sem .rep [.lst [.int 0], .int many] = some (.lst ((List.replicate many.toNat (0 : Int)).map .int)) := by
    rw [sem_rep (by rw [limE, List.length_singleton]; omega), rep_int]
  simp only [f6, hrep, wSs_cons, wSs_nil, wS_set, wS_unp, wS_sidx, wS_smt, wS_ex, wS_ret, wS_ite, wS_pass, wE_cst, wE_glb, wE_var, wE_sv, wE_mv, wE_rf, wE_frz, wE_op, wEs_nil, wEs_cons, wE_and, wE_or, wE_ite, wE_call, wE_bm, wE_pop, wK_none, wK_some, wR_seq, wR_rng1, wR_rng2, wR_zip, oS_some, bS_bl, iS_int, Mini.get, Mini.put, Mini.clear, Mini.back, Mini.scal, sem_neg, sem_not, sem_isN, sem_notN, sem_addI, sem_sub, sem_lt, sem_le, sem_gt, sem_ge, sem_eq, sem_ne, sem_in, sem_ni, sem_ixL, sem_ixT, sem_ixS, sem_lenL, sem_lenT, sem_lenS, sem_abs, sem_max2, sem_min2, sem_tupL, sem_tupT, sem_listL, sem_listT, sem_sorted, sem_all, sem_intB, sem_intI, sem_isL, sem_mkL0, sem_mkL1, sem_mkL2, sem_mkL3, sem_mkT0, sem_mkT1, sem_mkT2, sem_mkT3, Mini.isLst, Mini.fill, Mini.refs, Mini.ref1, Mini.backR, Option.map_some, Mini.unpD, Mini.bindL, Mini.bindT, Mini.itemsD, Mini.recM, Mini.isNon, Mini.wOut, Mini.outsOf, Mini.own, List.take, true_and, and_true, if_true, Bool.false_eq_true, if_false, at3_0, at3_1, at3_2, at2_0, at2_1, ix3_0, ix3_1, ix3_2, List.length_cons, List.length_nil, List.set_cons_zero, List.set_cons_succ, Nat.zero_add, Nat.reduceAdd, sem_fdivS, sem_mulS, sem_mod]
  refine wS_for ?_
  simp only [wSs_cons, wSs_nil, wS_set, wS_unp, wS_sidx, wS_smt, wS_ex, wS_ret, wS_ite, wS_pass, wE_cst, wE_glb, wE_var, wE_sv, wE_mv, wE_rf, wE_frz, wE_op, wEs_nil, wEs_cons, wE_and, wE_or, wE_ite, wE_call, wE_bm, wE_pop, wK_none, wK_some, wR_seq, wR_rng1, wR_rng2, wR_zip, oS_some, bS_bl, iS_int, Mini.get, Mini.put, Mini.clear, Mini.back, Mini.scal, sem_neg, sem_not, sem_isN, sem_notN, sem_addI, sem_sub, sem_lt, sem_le, sem_gt, sem_ge, sem_eq, sem_ne, sem_in, sem_ni, sem_ixL, sem_ixT, sem_ixS, sem_lenL, sem_lenT, sem_lenS, sem_abs, sem_max2, sem_min2, sem_tupL, sem_tupT, sem_listL, sem_listT, sem_sorted, sem_all, sem_intB, sem_intI, sem_isL, sem_mkL0, sem_mkL1, sem_mkL2, sem_mkL3, sem_mkT0, sem_mkT1, sem_mkT2, sem_mkT3, Mini.isLst, Mini.fill, Mini.refs, Mini.ref1, Mini.backR, Option.map_some, Mini.unpD, Mini.bindL, Mini.bindT, Mini.itemsD, Mini.recM, Mini.isNon, Mini.wOut, Mini.outsOf, Mini.own, List.take, true_and, and_true, if_true, Bool.false_eq_true, if_false, at3_0, at3_1, at3_2, at2_0, at2_1, ix3_0, ix3_1, ix3_2, List.length_cons, List.length_nil, List.set_cons_zero, List.set_cons_succ, Nat.zero_add, Nat.reduceAdd, sem_fdivS, sem_mulS, sem_mod]
  refine ⟨by omega, ?_⟩
  refine rng_loop (TI many) ?_ (fun i s hi h => tree_step n many h1 h2 _ i s hi h) ?_
  · refine ⟨a, b, c, [], List.replicate many.toNat 0, none, none, none, rfl, rfl, by simp, ?_, ?_, .nil⟩
    · rw [List.getD_eq_getElem?_getD, List.getElem?_replicate]
      split <;> simp
    · intro j _
      rw [List.getD_eq_getElem?_getD, List.getElem?_replicate]
      split <;> simp
  · intro s h
    obtain ⟨a, b, c, ps, t, x4, x5, x6, hs, e1, e2, h⟩ := h
    subst hs
    have _tt : True := trivial
    simp only [wSs_cons, wSs_nil, wS_set, wS_unp, wS_sidx, wS_smt, wS_ex, wS_ret, wS_ite, wS_pass, wE_cst, wE_glb, wE_var, wE_sv, wE_mv, wE_rf, wE_frz, wE_op, wEs_nil, wEs_cons, wE_and, wE_or, wE_ite, wE_call, wE_bm, wE_pop, wK_none, wK_some, wR_seq, wR_rng1, wR_rng2, wR_zip, oS_some, bS_bl, iS_int, Mini.get, Mini.put, Mini.clear, Mini.back, Mini.scal, sem_neg, sem_not, sem_isN, sem_notN, sem_addI, sem_sub, sem_lt, sem_le, sem_gt, sem_ge, sem_eq, sem_ne, sem_in, sem_ni, sem_ixL, sem_ixT, sem_ixS, sem_lenL, sem_lenT, sem_lenS, sem_abs, sem_max2, sem_min2, sem_tupL, sem_tupT, sem_listL, sem_listT, sem_sorted, sem_all, sem_intB, sem_intI, sem_isL, sem_mkL0, sem_mkL1, sem_mkL2, sem_mkL3, sem_mkT0, sem_mkT1, sem_mkT2, sem_mkT3, Mini.isLst, Mini.fill, Mini.refs, Mini.ref1, Mini.backR, Option.map_some, Mini.unpD, Mini.bindL, Mini.bindT, Mini.itemsD, Mini.recM, Mini.isNon, Mini.wOut, Mini.outsOf, Mini.own, List.take, true_and, and_true, if_true, Bool.false_eq_true, if_false, at3_0, at3_1, at3_2, at2_0, at2_1, ix3_0, ix3_1, ix3_2, List.length_cons, List.length_nil, List.set_cons_zero, List.set_cons_succ, Nat.zero_add, Nat.reduceAdd, sem_fdivS, sem_mulS, sem_mod]
    exact ⟨ps, a, b, c, rfl, by omega, by obtain ⟨_, _, hH⟩ := h; exact hH.weak (by omega), rfl⟩
end Lk51

namespace Lk51
open Mini
theorem sort2 (a b : Int) : ∃ x y : Int, sortD [.int a, .int b] = some [.int x, .int y] ∧ (x = a ∨ x = b) ∧ (y = a ∨ y = b) := by
  have e : sortD [.int a, .int b] = some ((isort leI [a, b]).map .int) := sortD_ints (l := [a, b])
  have l := isort_len leI [a, b]
  have hm : ∀ z ∈ isort leI [a, b], z = a ∨ z = b := fun z hz => by
    have := isort_mem leI z _ hz
    simpa using this
  rw [e]
  generalize isort leI [a, b] = q at l hm
  match q, l with
  | [x, y], _ => exact ⟨x, y, rfl, hm x (by simp), hm y (by simp)⟩
theorem more_ok (n : Nat) (a b c many : Int) (p0 : List (Int × Int)) (h1 : 2 ≤ many) (h2 : many ≤ 32) (h3 : p0.length ≤ 1000) (hH0 : Hlf many p0) : wC (callF fds (n + 2) 7 [pot a b c, .int many, .lst (p0.map prD)]) fun d os => ∃ (ps : List (Int × Int)) (a' b' c' : Int), d = .lst (ps.map prD) ∧ ps.length ≤ 2000 ∧ Hlf many ps ∧ os = [some (pot a' b' c'), none, none] := by
  refine wC_call (fd := f7) rfl rfl ?_
  show wSs (callF fds (n + 1)) f7.body [some (pot a b c), some (.int many), some (.lst (p0.map prD)), none, none, none, none, none, none] _ _
  simp only [f7]
  (rw [wSs_cons]; simp (maxSteps := 2000000) (disch := first | assumption | omega) only [wSs_nil, wS_set, wS_unp, wS_sidx, wS_smt, wS_ex, wS_ret, wS_ite, wS_pass, wE_cst, wE_glb, wE_var, wE_sv, wE_mv, wE_rf, wE_frz, wE_op, wEs_nil, wEs_cons, wE_and, wE_or, wE_ite, wE_call, wE_bm, wE_pop, wK_none, wK_some, wR_seq, wR_rng1, wR_rng2, wR_zip, oS_some, bS_bl, iS_int, Mini.get, Mini.put, Mini.clear, Mini.back, Mini.scal, sem_neg, sem_not, sem_isN, sem_notN, sem_addI, sem_sub, sem_lt, sem_le, sem_gt, sem_ge, sem_eq, sem_ne, sem_in, sem_ni, sem_ixL, sem_ixT, sem_ixS, sem_lenL, sem_lenT, sem_lenS, sem_abs, sem_max2, sem_min2, sem_tupL, sem_tupT, sem_listL, sem_listT, sem_sorted, sem_all, sem_intB, sem_intI, sem_isL, sem_mkL0, sem_mkL1, sem_mkL2, sem_mkL3, sem_mkT0, sem_mkT1, sem_mkT2, sem_mkT3, Mini.isLst, Mini.fill, Mini.refs, Mini.ref1, Mini.backR, Option.map_some, Mini.unpD, Mini.bindL, Mini.bindT, Mini.itemsD, Mini.recM, Mini.isNon, Mini.wOut, Mini.outsOf, Mini.own, List.take, true_and, and_true, if_true, Bool.false_eq_true, if_false, at3_0, at3_1, at3_2, at2_0, at2_1, ix3_0, ix3_1, ix3_2, List.length_cons, List.length_nil, List.set_cons_zero, List.set_cons_succ, Nat.zero_add, Nat.reduceAdd, sem_fdivS, sem_mulS, sem_mod])
  rw [wSs_cons]
  refine wS_for ?_
  simp (maxSteps := 2000000) (disch := first | assumption | omega) only [wSs_nil, wS_set, wS_unp, wS_sidx, wS_smt, wS_ex, wS_ret, wS_ite, wS_pass, wE_cst, wE_glb, wE_var, wE_sv, wE_mv, wE_rf, wE_frz, wE_op, wEs_nil, wEs_cons, wE_and, wE_or, wE_ite, wE_call, wE_bm, wE_pop, wK_none, wK_some, wR_seq, wR_rng1, wR_rng2, wR_zip, oS_some, bS_bl, iS_int, Mini.get, Mini.put, Mini.clear, Mini.back, Mini.scal, sem_neg, sem_not, sem_isN, sem_notN, sem_addI, sem_sub, sem_lt, sem_le, sem_gt, sem_ge, sem_eq, sem_ne, sem_in, sem_ni, sem_ixL, sem_ixT, sem_ixS, sem_lenL, sem_lenT, sem_lenS, sem_abs, sem_max2, sem_min2, sem_tupL, sem_tupT, sem_listL, sem_listT, sem_sorted, sem_all, sem_intB, sem_intI, sem_isL, sem_mkL0, sem_mkL1, sem_mkL2, sem_mkL3, sem_mkT0, sem_mkT1, sem_mkT2, sem_mkT3, Mini.isLst, Mini.fill, Mini.refs, Mini.ref1, Mini.backR, Option.map_some, Mini.unpD, Mini.bindL, Mini.bindT, Mini.itemsD, Mini.recM, Mini.isNon, Mini.wOut, Mini.outsOf, Mini.own, List.take, true_and, and_true, if_true, Bool.false_eq_true, if_false, at3_0, at3_1, at3_2, at2_0, at2_1, ix3_0, ix3_1, ix3_2, List.length_cons, List.length_nil, List.set_cons_zero, List.set_cons_succ, Nat.zero_add, Nat.reduceAdd, sem_fdivS, sem_mulS, sem_mod]
  refine wC_mono (take_ok n a b c 12 (by omega) (by omega)) ?_
  rintro d os ⟨r, a, b, c, rfl, r1, r2, rfl⟩
  simp (maxSteps := 2000000) (disch := first | assumption | omega) only [wSs_nil, wS_set, wS_unp, wS_sidx, wS_smt, wS_ex, wS_ret, wS_ite, wS_pass, wE_cst, wE_glb, wE_var, wE_sv, wE_mv, wE_rf, wE_frz, wE_op, wEs_nil, wEs_cons, wE_and, wE_or, wE_ite, wE_call, wE_bm, wE_pop, wK_none, wK_some, wR_seq, wR_rng1, wR_rng2, wR_zip, oS_some, bS_bl, iS_int, Mini.get, Mini.put, Mini.clear, Mini.back, Mini.scal, sem_neg, sem_not, sem_isN, sem_notN, sem_addI, sem_sub, sem_lt, sem_le, sem_gt, sem_ge, sem_eq, sem_ne, sem_in, sem_ni, sem_ixL, sem_ixT, sem_ixS, sem_lenL, sem_lenT, sem_lenS, sem_abs, sem_max2, sem_min2, sem_tupL, sem_tupT, sem_listL, sem_listT, sem_sorted, sem_all, sem_intB, sem_intI, sem_isL, sem_mkL0, sem_mkL1, sem_mkL2, sem_mkL3, sem_mkT0, sem_mkT1, sem_mkT2, sem_mkT3, Mini.isLst, Mini.fill, Mini.refs, Mini.ref1, Mini.backR, Option.map_some, Mini.unpD, Mini.bindL, Mini.bindT, Mini.itemsD, Mini.recM, Mini.isNon, Mini.wOut, Mini.outsOf, Mini.own, List.take, true_and, and_true, if_true, Bool.false_eq_true, if_false, at3_0, at3_1, at3_2, at2_0, at2_1, ix3_0, ix3_1, ix3_2, List.length_cons, List.length_nil, List.set_cons_zero, List.set_cons_succ, Nat.zero_add, Nat.reduceAdd, sem_fdivS, sem_mulS, sem_mod]
  refine ⟨by omega, ?_⟩
  refine rng_loop (fun i s => ∃ (a b c : Int) (ps : List (Int × Int)) (x4 x5 x6 x7 : Option D), s = [some (pot a b c), some (.int many), some (.lst (p0.map prD)), some (.lst (ps.map prD)), x4, x5, x6, x7, none] ∧ ps.length ≤ p0.length + i ∧ Hlf many ps) ⟨a, b, c, p0, none, none, none, none, rfl, by omega, hH0⟩ ?_ ?_
  · rintro i s hi ⟨a, b, c, ps, x4, x5, x6, x7, rfl, e1, hH⟩
    simp (maxSteps := 2000000) (disch := first | assumption | omega) only [wSs_nil, wS_set, wS_unp, wS_sidx, wS_smt, wS_ex, wS_ret, wS_ite, wS_pass, wE_cst, wE_glb, wE_var, wE_sv, wE_mv, wE_rf, wE_frz, wE_op, wEs_nil, wEs_cons, wE_and, wE_or, wE_ite, wE_call, wE_bm, wE_pop, wK_none, wK_some, wR_seq, wR_rng1, wR_rng2, wR_zip, oS_some, bS_bl, iS_int, Mini.get, Mini.put, Mini.clear, Mini.back, Mini.scal, sem_neg, sem_not, sem_isN, sem_notN, sem_addI, sem_sub, sem_lt, sem_le, sem_gt, sem_ge, sem_eq, sem_ne, sem_in, sem_ni, sem_ixL, sem_ixT, sem_ixS, sem_lenL, sem_lenT, sem_lenS, sem_abs, sem_max2, sem_min2, sem_tupL, sem_tupT, sem_listL, sem_listT, sem_sorted, sem_all, sem_intB, sem_intI, sem_isL, sem_mkL0, sem_mkL1, sem_mkL2, sem_mkL3, sem_mkT0, sem_mkT1, sem_mkT2, sem_mkT3, Mini.isLst, Mini.fill, Mini.refs, Mini.ref1, Mini.backR, Option.map_some, Mini.unpD, Mini.bindL, Mini.bindT, Mini.itemsD, Mini.recM, Mini.isNon, Mini.wOut, Mini.outsOf, Mini.own, List.take, true_and, and_true, if_true, Bool.false_eq_true, if_false, at3_0, at3_1, at3_2, at2_0, at2_1, ix3_0, ix3_1, ix3_2, List.length_cons, List.length_nil, List.set_cons_zero, List.set_cons_succ, Nat.zero_add, Nat.reduceAdd, sem_fdivS, sem_mulS, sem_mod]
    (rw [wSs_cons]; simp (maxSteps := 2000000) (disch := first | assumption | omega) only [wSs_nil, wS_set, wS_unp, wS_sidx, wS_smt, wS_ex, wS_ret, wS_ite, wS_pass, wE_cst, wE_glb, wE_var, wE_sv, wE_mv, wE_rf, wE_frz, wE_op, wEs_nil, wEs_cons, wE_and, wE_or, wE_ite, wE_call, wE_bm, wE_pop, wK_none, wK_some, wR_seq, wR_rng1, wR_rng2, wR_zip, oS_some, bS_bl, iS_int, Mini.get, Mini.put, Mini.clear, Mini.back, Mini.scal, sem_neg, sem_not, sem_isN, sem_notN, sem_addI, sem_sub, sem_lt, sem_le, sem_gt, sem_ge, sem_eq, sem_ne, sem_in, sem_ni, sem_ixL, sem_ixT, sem_ixS, sem_lenL, sem_lenT, sem_lenS, sem_abs, sem_max2, sem_min2, sem_tupL, sem_tupT, sem_listL, sem_listT, sem_sorted, sem_all, sem_intB, sem_intI, sem_isL, sem_mkL0, sem_mkL1, sem_mkL2, sem_mkL3, sem_mkT0, sem_mkT1, sem_mkT2, sem_mkT3, Mini.isLst, Mini.fill, Mini.refs, Mini.ref1, Mini.backR, Option.map_some, Mini.unpD, Mini.bindL, Mini.bindT, Mini.itemsD, Mini.recM, Mini.isNon, Mini.wOut, Mini.outsOf, Mini.own, List.take, true_and, and_true, if_true, Bool.false_eq_true, if_false, at3_0, at3_1, at3_2, at2_0, at2_1, ix3_0, ix3_1, ix3_2, List.length_cons, List.length_nil, List.set_cons_zero, List.set_cons_succ, Nat.zero_add, Nat.reduceAdd, sem_fdivS, sem_mulS, sem_mod])
    refine wC_mono (take_ok n a b c many (by omega) (by omega)) ?_
    rintro d os ⟨r1, a, b, c, rfl, ra1, ra2, rfl⟩
    simp (maxSteps := 2000000) (disch := first | assumption | omega) only [wSs_nil, wS_set, wS_unp, wS_sidx, wS_smt, wS_ex, wS_ret, wS_ite, wS_pass, wE_cst, wE_glb, wE_var, wE_sv, wE_mv, wE_rf, wE_frz, wE_op, wEs_nil, wEs_cons, wE_and, wE_or, wE_ite, wE_call, wE_bm, wE_pop, wK_none, wK_some, wR_seq, wR_rng1, wR_rng2, wR_zip, oS_some, bS_bl, iS_int, Mini.get, Mini.put, Mini.clear, Mini.back, Mini.scal, sem_neg, sem_not, sem_isN, sem_notN, sem_addI, sem_sub, sem_lt, sem_le, sem_gt, sem_ge, sem_eq, sem_ne, sem_in, sem_ni, sem_ixL, sem_ixT, sem_ixS, sem_lenL, sem_lenT, sem_lenS, sem_abs, sem_max2, sem_min2, sem_tupL, sem_tupT, sem_listL, sem_listT, sem_sorted, sem_all, sem_intB, sem_intI, sem_isL, sem_mkL0, sem_mkL1, sem_mkL2, sem_mkL3, sem_mkT0, sem_mkT1, sem_mkT2, sem_mkT3, Mini.isLst, Mini.fill, Mini.refs, Mini.ref1, Mini.backR, Option.map_some, Mini.unpD, Mini.bindL, Mini.bindT, Mini.itemsD, Mini.recM, Mini.isNon, Mini.wOut, Mini.outsOf, Mini.own, List.take, true_and, and_true, if_true, Bool.false_eq_true, if_false, at3_0, at3_1, at3_2, at2_0, at2_1, ix3_0, ix3_1, ix3_2, List.length_cons, List.length_nil, List.set_cons_zero, List.set_cons_succ, Nat.zero_add, Nat.reduceAdd, sem_fdivS, sem_mulS, sem_mod]
    refine wC_mono (take_ok n a b c many (by omega) (by omega)) ?_
    rintro d os ⟨r2, a, b, c, rfl, rb1, rb2, rfl⟩
    obtain ⟨x, y, hxy, hx, hy⟩ := sort2 r1 r2
    simp (maxSteps := 2000000) (disch := first | assumption | omega) only [hxy, wSs_nil, wS_set, wS_unp, wS_sidx, wS_smt, wS_ex, wS_ret, wS_ite, wS_pass, wE_cst, wE_glb, wE_var, wE_sv, wE_mv, wE_rf, wE_frz, wE_op, wEs_nil, wEs_cons, wE_and, wE_or, wE_ite, wE_call, wE_bm, wE_pop, wK_none, wK_some, wR_seq, wR_rng1, wR_rng2, wR_zip, oS_some, bS_bl, iS_int, Mini.get, Mini.put, Mini.clear, Mini.back, Mini.scal, sem_neg, sem_not, sem_isN, sem_notN, sem_addI, sem_sub, sem_lt, sem_le, sem_gt, sem_ge, sem_eq, sem_ne, sem_in, sem_ni, sem_ixL, sem_ixT, sem_ixS, sem_lenL, sem_lenT, sem_lenS, sem_abs, sem_max2, sem_min2, sem_tupL, sem_tupT, sem_listL, sem_listT, sem_sorted, sem_all, sem_intB, sem_intI, sem_isL, sem_mkL0, sem_mkL1, sem_mkL2, sem_mkL3, sem_mkT0, sem_mkT1, sem_mkT2, sem_mkT3, Mini.isLst, Mini.fill, Mini.refs, Mini.ref1, Mini.backR, Option.map_some, Mini.unpD, Mini.bindL, Mini.bindT, Mini.itemsD, Mini.recM, Mini.isNon, Mini.wOut, Mini.outsOf, Mini.own, List.take, true_and, and_true, if_true, Bool.false_eq_true, if_false, at3_0, at3_1, at3_2, at2_0, at2_1, ix3_0, ix3_1, ix3_2, List.length_cons, List.length_nil, List.set_cons_zero, List.set_cons_succ, Nat.zero_add, Nat.reduceAdd, sem_fdivS, sem_mulS, sem_mod]
    (rw [wSs_cons]; simp (maxSteps := 2000000) (disch := first | assumption | omega) only [wSs_nil, wS_set, wS_unp, wS_sidx, wS_smt, wS_ex, wS_ret, wS_ite, wS_pass, wE_cst, wE_glb, wE_var, wE_sv, wE_mv, wE_rf, wE_frz, wE_op, wEs_nil, wEs_cons, wE_and, wE_or, wE_ite, wE_call, wE_bm, wE_pop, wK_none, wK_some, wR_seq, wR_rng1, wR_rng2, wR_zip, oS_some, bS_bl, iS_int, Mini.get, Mini.put, Mini.clear, Mini.back, Mini.scal, sem_neg, sem_not, sem_isN, sem_notN, sem_addI, sem_sub, sem_lt, sem_le, sem_gt, sem_ge, sem_eq, sem_ne, sem_in, sem_ni, sem_ixL, sem_ixT, sem_ixS, sem_lenL, sem_lenT, sem_lenS, sem_abs, sem_max2, sem_min2, sem_tupL, sem_tupT, sem_listL, sem_listT, sem_sorted, sem_all, sem_intB, sem_intI, sem_isL, sem_mkL0, sem_mkL1, sem_mkL2, sem_mkL3, sem_mkT0, sem_mkT1, sem_mkT2, sem_mkT3, Mini.isLst, Mini.fill, Mini.refs, Mini.ref1, Mini.backR, Option.map_some, Mini.unpD, Mini.bindL, Mini.bindT, Mini.itemsD, Mini.recM, Mini.isNon, Mini.wOut, Mini.outsOf, Mini.own, List.take, true_and, and_true, if_true, Bool.false_eq_true, if_false, at3_0, at3_1, at3_2, at2_0, at2_1, ix3_0, ix3_1, ix3_2, List.length_cons, List.length_nil, List.set_cons_zero, List.set_cons_succ, Nat.zero_add, Nat.reduceAdd, sem_fdivS, sem_mulS, sem_mod])
    refine wE_comp ?_
    simp (maxSteps := 2000000) (disch := first | assumption | omega) only [wSs_nil, wS_set, wS_unp, wS_sidx, wS_smt, wS_ex, wS_ret, wS_ite, wS_pass, wE_cst, wE_glb, wE_var, wE_sv, wE_mv, wE_rf, wE_frz, wE_op, wEs_nil, wEs_cons, wE_and, wE_or, wE_ite, wE_call, wE_bm, wE_pop, wK_none, wK_some, wR_seq, wR_rng1, wR_rng2, wR_zip, oS_some, bS_bl, iS_int, Mini.get, Mini.put, Mini.clear, Mini.back, Mini.scal, sem_neg, sem_not, sem_isN, sem_notN, sem_addI, sem_sub, sem_lt, sem_le, sem_gt, sem_ge, sem_eq, sem_ne, sem_in, sem_ni, sem_ixL, sem_ixT, sem_ixS, sem_lenL, sem_lenT, sem_lenS, sem_abs, sem_max2, sem_min2, sem_tupL, sem_tupT, sem_listL, sem_listT, sem_sorted, sem_all, sem_intB, sem_intI, sem_isL, sem_mkL0, sem_mkL1, sem_mkL2, sem_mkL3, sem_mkT0, sem_mkT1, sem_mkT2, sem_mkT3, Mini.isLst, Mini.fill, Mini.refs, Mini.ref1, Mini.backR, Option.map_some, Mini.unpD, Mini.bindL, Mini.bindT, Mini.itemsD, Mini.recM, Mini.isNon, Mini.wOut, Mini.outsOf, Mini.own, List.take, true_and, and_true, if_true, Bool.false_eq_true, if_false, at3_0, at3_1, at3_2, at2_0, at2_1, ix3_0, ix3_1, ix3_2, List.length_cons, List.length_nil, List.set_cons_zero, List.set_cons_succ, Nat.zero_add, Nat.reduceAdd, sem_fdivS, sem_mulS, sem_mod]
    refine comp_map ps prD (fun p => .int p.1) (by rw [limE]; omega) (fun p hp => ?_) ?_
    · simp (maxSteps := 2000000) (disch := first | assumption | omega) only [prD, wSs_nil, wS_set, wS_unp, wS_sidx, wS_smt, wS_ex, wS_ret, wS_ite, wS_pass, wE_cst, wE_glb, wE_var, wE_sv, wE_mv, wE_rf, wE_frz, wE_op, wEs_nil, wEs_cons, wE_and, wE_or, wE_ite, wE_call, wE_bm, wE_pop, wK_none, wK_some, wR_seq, wR_rng1, wR_rng2, wR_zip, oS_some, bS_bl, iS_int, Mini.get, Mini.put, Mini.clear, Mini.back, Mini.scal, sem_neg, sem_not, sem_isN, sem_notN, sem_addI, sem_sub, sem_lt, sem_le, sem_gt, sem_ge, sem_eq, sem_ne, sem_in, sem_ni, sem_ixL, sem_ixT, sem_ixS, sem_lenL, sem_lenT, sem_lenS, sem_abs, sem_max2, sem_min2, sem_tupL, sem_tupT, sem_listL, sem_listT, sem_sorted, sem_all, sem_intB, sem_intI, sem_isL, sem_mkL0, sem_mkL1, sem_mkL2, sem_mkL3, sem_mkT0, sem_mkT1, sem_mkT2, sem_mkT3, Mini.isLst, Mini.fill, Mini.refs, Mini.ref1, Mini.backR, Option.map_some, Mini.unpD, Mini.bindL, Mini.bindT, Mini.itemsD, Mini.recM, Mini.isNon, Mini.wOut, Mini.outsOf, Mini.own, List.take, true_and, and_true, if_true, Bool.false_eq_true, if_false, at3_0, at3_1, at3_2, at2_0, at2_1, ix3_0, ix3_1, ix3_2, List.length_cons, List.length_nil, List.set_cons_zero, List.set_cons_succ, Nat.zero_add, Nat.reduceAdd, sem_fdivS, sem_mulS, sem_mod]
    simp (maxSteps := 2000000) (disch := first | assumption | omega) only [wSs_nil, wS_set, wS_unp, wS_sidx, wS_smt, wS_ex, wS_ret, wS_ite, wS_pass, wE_cst, wE_glb, wE_var, wE_sv, wE_mv, wE_rf, wE_frz, wE_op, wEs_nil, wEs_cons, wE_and, wE_or, wE_ite, wE_call, wE_bm, wE_pop, wK_none, wK_some, wR_seq, wR_rng1, wR_rng2, wR_zip, oS_some, bS_bl, iS_int, Mini.get, Mini.put, Mini.clear, Mini.back, Mini.scal, sem_neg, sem_not, sem_isN, sem_notN, sem_addI, sem_sub, sem_lt, sem_le, sem_gt, sem_ge, sem_eq, sem_ne, sem_in, sem_ni, sem_ixL, sem_ixT, sem_ixS, sem_lenL, sem_lenT, sem_lenS, sem_abs, sem_max2, sem_min2, sem_tupL, sem_tupT, sem_listL, sem_listT, sem_sorted, sem_all, sem_intB, sem_intI, sem_isL, sem_mkL0, sem_mkL1, sem_mkL2, sem_mkL3, sem_mkT0, sem_mkT1, sem_mkT2, sem_mkT3, Mini.isLst, Mini.fill, Mini.refs, Mini.ref1, Mini.backR, Option.map_some, Mini.unpD, Mini.bindL, Mini.bindT, Mini.itemsD, Mini.recM, Mini.isNon, Mini.wOut, Mini.outsOf, Mini.own, List.take, true_and, and_true, if_true, Bool.false_eq_true, if_false, at3_0, at3_1, at3_2, at2_0, at2_1, ix3_0, ix3_1, ix3_2, List.length_cons, List.length_nil, List.set_cons_zero, List.set_cons_succ, Nat.zero_add, Nat.reduceAdd, sem_fdivS, sem_mulS, sem_mod]
    refine wE_comp ?_
    simp (maxSteps := 2000000) (disch := first | assumption | omega) only [wSs_nil, wS_set, wS_unp, wS_sidx, wS_smt, wS_ex, wS_ret, wS_ite, wS_pass, wE_cst, wE_glb, wE_var, wE_sv, wE_mv, wE_rf, wE_frz, wE_op, wEs_nil, wEs_cons, wE_and, wE_or, wE_ite, wE_call, wE_bm, wE_pop, wK_none, wK_some, wR_seq, wR_rng1, wR_rng2, wR_zip, oS_some, bS_bl, iS_int, Mini.get, Mini.put, Mini.clear, Mini.back, Mini.scal, sem_neg, sem_not, sem_isN, sem_notN, sem_addI, sem_sub, sem_lt, sem_le, sem_gt, sem_ge, sem_eq, sem_ne, sem_in, sem_ni, sem_ixL, sem_ixT, sem_ixS, sem_lenL, sem_lenT, sem_lenS, sem_abs, sem_max2, sem_min2, sem_tupL, sem_tupT, sem_listL, sem_listT, sem_sorted, sem_all, sem_intB, sem_intI, sem_isL, sem_mkL0, sem_mkL1, sem_mkL2, sem_mkL3, sem_mkT0, sem_mkT1, sem_mkT2, sem_mkT3, Mini.isLst, Mini.fill, Mini.refs, Mini.ref1, Mini.backR, Option.map_some, Mini.unpD, Mini.bindL, Mini.bindT, Mini.itemsD, Mini.recM, Mini.isNon, Mini.wOut, Mini.outsOf, Mini.own, List.take, true_and, and_true, if_true, Bool.false_eq_true, if_false, at3_0, at3_1, at3_2, at2_0, at2_1, ix3_0, ix3_1, ix3_2, List.length_cons, List.length_nil, List.set_cons_zero, List.set_cons_succ, Nat.zero_add, Nat.reduceAdd, sem_fdivS, sem_mulS, sem_mod]
    refine comp_map ps prD (fun p => .int p.2) (by rw [limE]; omega) (fun p hp => ?_) ?_
    · simp (maxSteps := 2000000) (disch := first | assumption | omega) only [prD, wSs_nil, wS_set, wS_unp, wS_sidx, wS_smt, wS_ex, wS_ret, wS_ite, wS_pass, wE_cst, wE_glb, wE_var, wE_sv, wE_mv, wE_rf, wE_frz, wE_op, wEs_nil, wEs_cons, wE_and, wE_or, wE_ite, wE_call, wE_bm, wE_pop, wK_none, wK_some, wR_seq, wR_rng1, wR_rng2, wR_zip, oS_some, bS_bl, iS_int, Mini.get, Mini.put, Mini.clear, Mini.back, Mini.scal, sem_neg, sem_not, sem_isN, sem_notN, sem_addI, sem_sub, sem_lt, sem_le, sem_gt, sem_ge, sem_eq, sem_ne, sem_in, sem_ni, sem_ixL, sem_ixT, sem_ixS, sem_lenL, sem_lenT, sem_lenS, sem_abs, sem_max2, sem_min2, sem_tupL, sem_tupT, sem_listL, sem_listT, sem_sorted, sem_all, sem_intB, sem_intI, sem_isL, sem_mkL0, sem_mkL1, sem_mkL2, sem_mkL3, sem_mkT0, sem_mkT1, sem_mkT2, sem_mkT3, Mini.isLst, Mini.fill, Mini.refs, Mini.ref1, Mini.backR, Option.map_some, Mini.unpD, Mini.bindL, Mini.bindT, Mini.itemsD, Mini.recM, Mini.isNon, Mini.wOut, Mini.outsOf, Mini.own, List.take, true_and, and_true, if_true, Bool.false_eq_true, if_false, at3_0, at3_1, at3_2, at2_0, at2_1, ix3_0, ix3_1, ix3_2, List.length_cons, List.length_nil, List.set_cons_zero, List.set_cons_succ, Nat.zero_add, Nat.reduceAdd, sem_fdivS, sem_mulS, sem_mod]
    have et : ps.map (fun p => D.int p.1) ++ ps.map (fun p => D.int p.2) = (ps.map (·.1) ++ ps.map (·.2)).map D.int := by
      rw [List.map_append, List.map_map, List.map_map]
      rfl
    have hcat : sem .cat [.lst (ps.map fun p => D.int p.1), .lst (ps.map fun p => D.int p.2)] = some (.lst ((ps.map (·.1) ++ ps.map (·.2)).map D.int)) := by
      rw [sem_cat (by rw [List.length_map, List.length_map, limE]; omega), et]
    simp (maxSteps := 2000000) (disch := first | assumption | omega) only [hcat, wSs_nil, wS_set, wS_unp, wS_sidx, wS_smt, wS_ex, wS_ret, wS_ite, wS_pass, wE_cst, wE_glb, wE_var, wE_sv, wE_mv, wE_rf, wE_frz, wE_op, wEs_nil, wEs_cons, wE_and, wE_or, wE_ite, wE_call, wE_bm, wE_pop, wK_none, wK_some, wR_seq, wR_rng1, wR_rng2, wR_zip, oS_some, bS_bl, iS_int, Mini.get, Mini.put, Mini.clear, Mini.back, Mini.scal, sem_neg, sem_not, sem_isN, sem_notN, sem_addI, sem_sub, sem_lt, sem_le, sem_gt, sem_ge, sem_eq, sem_ne, sem_in, sem_ni, sem_ixL, sem_ixT, sem_ixS, sem_lenL, sem_lenT, sem_lenS, sem_abs, sem_max2, sem_min2, sem_tupL, sem_tupT, sem_listL, sem_listT, sem_sorted, sem_all, sem_intB, sem_intI, sem_isL, sem_mkL0, sem_mkL1, sem_mkL2, sem_mkL3, sem_mkT0, sem_mkT1, sem_mkT2, sem_mkT3, Mini.isLst, Mini.fill, Mini.refs, Mini.ref1, Mini.backR, Option.map_some, Mini.unpD, Mini.bindL, Mini.bindT, Mini.itemsD, Mini.recM, Mini.isNon, Mini.wOut, Mini.outsOf, Mini.own, List.take, true_and, and_true, if_true, Bool.false_eq_true, if_false, at3_0, at3_1, at3_2, at2_0, at2_1, ix3_0, ix3_1, ix3_2, List.length_cons, List.length_nil, List.set_cons_zero, List.set_cons_succ, Nat.zero_add, Nat.reduceAdd, sem_fdivS, sem_mulS, sem_mod]
    generalize ps.map (·.1) ++ ps.map (·.2) = td
    have hc1 : inD (.tup [.int x, .int y]) (.lst (ps.map prD)) = some (decide ((x, y) ∈ ps)) := in_prs (p := (x, y))
    obtain ⟨k1, hk1⟩ := cnt_ok (n := 0) (m := 0) (x := .int x) (xs := td.map .int) rfl all_int (by omega) (by omega)
    obtain ⟨k2, hk2⟩ := cnt_ok (n := 0) (m := 0) (x := .int y) (xs := td.map .int) rfl all_int (by omega) (by omega)
    (rw [wSs_cons]; simp (maxSteps := 2000000) (disch := first | assumption | omega) only [hc1, hk1, hk2, wSs_nil, wS_set, wS_unp, wS_sidx, wS_smt, wS_ex, wS_ret, wS_ite, wS_pass, wE_cst, wE_glb, wE_var, wE_sv, wE_mv, wE_rf, wE_frz, wE_op, wEs_nil, wEs_cons, wE_and, wE_or, wE_ite, wE_call, wE_bm, wE_pop, wK_none, wK_some, wR_seq, wR_rng1, wR_rng2, wR_zip, oS_some, bS_bl, iS_int, Mini.get, Mini.put, Mini.clear, Mini.back, Mini.scal, sem_neg, sem_not, sem_isN, sem_notN, sem_addI, sem_sub, sem_lt, sem_le, sem_gt, sem_ge, sem_eq, sem_ne, sem_in, sem_ni, sem_ixL, sem_ixT, sem_ixS, sem_lenL, sem_lenT, sem_lenS, sem_abs, sem_max2, sem_min2, sem_tupL, sem_tupT, sem_listL, sem_listT, sem_sorted, sem_all, sem_intB, sem_intI, sem_isL, sem_mkL0, sem_mkL1, sem_mkL2, sem_mkL3, sem_mkT0, sem_mkT1, sem_mkT2, sem_mkT3, Mini.isLst, Mini.fill, Mini.refs, Mini.ref1, Mini.backR, Option.map_some, Mini.unpD, Mini.bindL, Mini.bindT, Mini.itemsD, Mini.recM, Mini.isNon, Mini.wOut, Mini.outsOf, Mini.own, List.take, true_and, and_true, if_true, Bool.false_eq_true, if_false, at3_0, at3_1, at3_2, at2_0, at2_1, ix3_0, ix3_1, ix3_2, List.length_cons, List.length_nil, List.set_cons_zero, List.set_cons_succ, Nat.zero_add, Nat.reduceAdd, sem_fdivS, sem_mulS, sem_mod])
    repeat' split
    all_goals first
      | exact ⟨a, b, c, ps, _, _, _, _, rfl, by omega, hH⟩
      | (rw [wSs_nil]; exact ⟨a, b, c, ps, _, _, _, _, rfl, by omega, hH⟩)
      | ((rw [wSs_cons]; simp (maxSteps := 2000000) (disch := first | assumption | omega) only [app_prs, wSs_nil, wS_set, wS_unp, wS_sidx, wS_smt, wS_ex, wS_ret, wS_ite, wS_pass, wE_cst, wE_glb, wE_var, wE_sv, wE_mv, wE_rf, wE_frz, wE_op, wEs_nil, wEs_cons, wE_and, wE_or, wE_ite, wE_call, wE_bm, wE_pop, wK_none, wK_some, wR_seq, wR_rng1, wR_rng2, wR_zip, oS_some, bS_bl, iS_int, Mini.get, Mini.put, Mini.clear, Mini.back, Mini.scal, sem_neg, sem_not, sem_isN, sem_notN, sem_addI, sem_sub, sem_lt, sem_le, sem_gt, sem_ge, sem_eq, sem_ne, sem_in, sem_ni, sem_ixL, sem_ixT, sem_ixS, sem_lenL, sem_lenT, sem_lenS, sem_abs, sem_max2, sem_min2, sem_tupL, sem_tupT, sem_listL, sem_listT, sem_sorted, sem_all, sem_intB, sem_intI, sem_isL, sem_mkL0, sem_mkL1, sem_mkL2, sem_mkL3, sem_mkT0, sem_mkT1, sem_mkT2, sem_mkT3, Mini.isLst, Mini.fill, Mini.refs, Mini.ref1, Mini.backR, Option.map_some, Mini.unpD, Mini.bindL, Mini.bindT, Mini.itemsD, Mini.recM, Mini.isNon, Mini.wOut, Mini.outsOf, Mini.own, List.take, true_and, and_true, if_true, Bool.false_eq_true, if_false, at3_0, at3_1, at3_2, at2_0, at2_1, ix3_0, ix3_1, ix3_2, List.length_cons, List.length_nil, List.set_cons_zero, List.set_cons_succ, Nat.zero_add, Nat.reduceAdd, sem_fdivS, sem_mulS, sem_mod]); exact ⟨a, b, c, ps ++ [(x, y)], _, _, _, _, rfl, by simp; omega, hH.snoc (fun z => by
          have q := ‹(!decide ((x, y) ∈ ps)) = true›
          simp [z] at q) (by omega) (of_decide_eq_true ‹decide (x < y) = true›) (by omega)⟩)
  · rintro s ⟨a, b, c, ps, x4, x5, x6, x7, rfl, e1, hH⟩
    (rw [wSs_cons]; simp (maxSteps := 2000000) (disch := first | assumption | omega) only [wSs_nil, wS_set, wS_unp, wS_sidx, wS_smt, wS_ex, wS_ret, wS_ite, wS_pass, wE_cst, wE_glb, wE_var, wE_sv, wE_mv, wE_rf, wE_frz, wE_op, wEs_nil, wEs_cons, wE_and, wE_or, wE_ite, wE_call, wE_bm, wE_pop, wK_none, wK_some, wR_seq, wR_rng1, wR_rng2, wR_zip, oS_some, bS_bl, iS_int, Mini.get, Mini.put, Mini.clear, Mini.back, Mini.scal, sem_neg, sem_not, sem_isN, sem_notN, sem_addI, sem_sub, sem_lt, sem_le, sem_gt, sem_ge, sem_eq, sem_ne, sem_in, sem_ni, sem_ixL, sem_ixT, sem_ixS, sem_lenL, sem_lenT, sem_lenS, sem_abs, sem_max2, sem_min2, sem_tupL, sem_tupT, sem_listL, sem_listT, sem_sorted, sem_all, sem_intB, sem_intI, sem_isL, sem_mkL0, sem_mkL1, sem_mkL2, sem_mkL3, sem_mkT0, sem_mkT1, sem_mkT2, sem_mkT3, Mini.isLst, Mini.fill, Mini.refs, Mini.ref1, Mini.backR, Option.map_some, Mini.unpD, Mini.bindL, Mini.bindT, Mini.itemsD, Mini.recM, Mini.isNon, Mini.wOut, Mini.outsOf, Mini.own, List.take, true_and, and_true, if_true, Bool.false_eq_true, if_false, at3_0, at3_1, at3_2, at2_0, at2_1, ix3_0, ix3_1, ix3_2, List.length_cons, List.length_nil, List.set_cons_zero, List.set_cons_succ, Nat.zero_add, Nat.reduceAdd, sem_fdivS, sem_mulS, sem_mod])
    exact ⟨ps, a, b, c, rfl, by omega, hH, rfl⟩
end Lk51

namespace Lk51
open Mini
theorem erase_map : ∀ (l : List Int) (k : Nat), (l.map D.int).eraseIdx k = (l.eraseIdx k).map .int
  | [], _ => rfl
  | _ :: _, 0 => rfl
  | x :: l, k + 1 => by
    show D.int x :: (l.map D.int).eraseIdx k = _
    rw [erase_map l k]
    rfl
theorem erase_perm : ∀ (l : List Int) (k : Nat) (h : k < l.length), (([l[k]] : List Int) ++ l.eraseIdx k).Perm l
  | [], _, h => by simp at h
  | x :: l, 0, _ => .refl _
  | x :: l, k + 1, h => by
    have hk : k < l.length := by simpa using h
    have := erase_perm l k hk
    show ((l[k]'hk) :: x :: l.eraseIdx k).Perm (x :: l)
    exact (List.Perm.swap x (l[k]'hk) _).trans (this.cons x)
theorem rngL_rg {m : Nat} : ((List.range m).map fun (k : Nat) => D.int (k : Int)) = (rg 0 m).map .int := by
  unfold rg
  rw [List.map_map]
  refine List.map_congr_left fun k _ => ?_
  show D.int (k : Int) = D.int (0 + (k : Int))
  rw [Int.zero_add]
theorem cyc_ok (n : Nat) (a b c many size : Int) (h1 : 1 ≤ size) (h2 : size ≤ many) (h3 : many ≤ 32) : wC (callF fds (n + 2) 8 [pot a b c, .int many, .int size]) fun d os => ∃ (ps : List (Int × Int)) (a' b' c' : Int), d = .lst (ps.map prD) ∧ ps.length ≤ 32 ∧ Bal many ps ∧ os = [some (pot a' b' c'), none, none] := by
  refine wC_call (fd := f8) rfl rfl ?_
  show wSs (callF fds (n + 1)) f8.body [some (pot a b c), some (.int many), some (.int size), none, none, none] _ _
  have hr : sem .rngL [.int many] = some (.lst ((rg 0 many.toNat).map .int)) := by
    rw [sem_rngL ⟨by omega, by rw [limE]; omega⟩, rngL_rg]
  simp only [f8]
  (rw [wSs_cons]; simp (maxSteps := 2000000) (disch := first | assumption | omega) only [hr, wSs_nil, wS_set, wS_unp, wS_sidx, wS_smt, wS_ex, wS_ret, wS_ite, wS_pass, wE_cst, wE_glb, wE_var, wE_sv, wE_mv, wE_rf, wE_frz, wE_op, wEs_nil, wEs_cons, wE_and, wE_or, wE_ite, wE_call, wE_bm, wE_pop, wK_none, wK_some, wR_seq, wR_rng1, wR_rng2, wR_zip, oS_some, bS_bl, iS_int, Mini.get, Mini.put, Mini.clear, Mini.back, Mini.scal, sem_neg, sem_not, sem_isN, sem_notN, sem_addI, sem_sub, sem_lt, sem_le, sem_gt, sem_ge, sem_eq, sem_ne, sem_in, sem_ni, sem_ixL, sem_ixT, sem_ixS, sem_lenL, sem_lenT, sem_lenS, sem_abs, sem_max2, sem_min2, sem_tupL, sem_tupT, sem_listL, sem_listT, sem_sorted, sem_all, sem_intB, sem_intI, sem_isL, sem_mkL0, sem_mkL1, sem_mkL2, sem_mkL3, sem_mkT0, sem_mkT1, sem_mkT2, sem_mkT3, Mini.isLst, Mini.fill, Mini.refs, Mini.ref1, Mini.backR, Option.map_some, Mini.unpD, Mini.bindL, Mini.bindT, Mini.itemsD, Mini.recM, Mini.isNon, Mini.wOut, Mini.outsOf, Mini.own, List.take, true_and, and_true, if_true, Bool.false_eq_true, if_false, at3_0, at3_1, at3_2, at2_0, at2_1, ix3_0, ix3_1, ix3_2, List.length_cons, List.length_nil, List.set_cons_zero, List.set_cons_succ, Nat.zero_add, Nat.reduceAdd, sem_fdivS, sem_mulS, sem_mod])
  rw [wSs_cons]
  simp (maxSteps := 2000000) (disch := first | assumption | omega) only [wSs_nil, wS_set, wS_unp, wS_sidx, wS_smt, wS_ex, wS_ret, wS_ite, wS_pass, wE_cst, wE_glb, wE_var, wE_sv, wE_mv, wE_rf, wE_frz, wE_op, wEs_nil, wEs_cons, wE_and, wE_or, wE_ite, wE_call, wE_bm, wE_pop, wK_none, wK_some, wR_seq, wR_rng1, wR_rng2, wR_zip, oS_some, bS_bl, iS_int, Mini.get, Mini.put, Mini.clear, Mini.back, Mini.scal, sem_neg, sem_not, sem_isN, sem_notN, sem_addI, sem_sub, sem_lt, sem_le, sem_gt, sem_ge, sem_eq, sem_ne, sem_in, sem_ni, sem_ixL, sem_ixT, sem_ixS, sem_lenL, sem_lenT, sem_lenS, sem_abs, sem_max2, sem_min2, sem_tupL, sem_tupT, sem_listL, sem_listT, sem_sorted, sem_all, sem_intB, sem_intI, sem_isL, sem_mkL0, sem_mkL1, sem_mkL2, sem_mkL3, sem_mkT0, sem_mkT1, sem_mkT2, sem_mkT3, Mini.isLst, Mini.fill, Mini.refs, Mini.ref1, Mini.backR, Option.map_some, Mini.unpD, Mini.bindL, Mini.bindT, Mini.itemsD, Mini.recM, Mini.isNon, Mini.wOut, Mini.outsOf, Mini.own, List.take, true_and, and_true, if_true, Bool.false_eq_true, if_false, at3_0, at3_1, at3_2, at2_0, at2_1, ix3_0, ix3_1, ix3_2, List.length_cons, List.length_nil, List.set_cons_zero, List.set_cons_succ, Nat.zero_add, Nat.reduceAdd, sem_fdivS, sem_mulS, sem_mod]
  refine wE_comp ?_
  simp (maxSteps := 2000000) (disch := first | assumption | omega) only [wSs_nil, wS_set, wS_unp, wS_sidx, wS_smt, wS_ex, wS_ret, wS_ite, wS_pass, wE_cst, wE_glb, wE_var, wE_sv, wE_mv, wE_rf, wE_frz, wE_op, wEs_nil, wEs_cons, wE_and, wE_or, wE_ite, wE_call, wE_bm, wE_pop, wK_none, wK_some, wR_seq, wR_rng1, wR_rng2, wR_zip, oS_some, bS_bl, iS_int, Mini.get, Mini.put, Mini.clear, Mini.back, Mini.scal, sem_neg, sem_not, sem_isN, sem_notN, sem_addI, sem_sub, sem_lt, sem_le, sem_gt, sem_ge, sem_eq, sem_ne, sem_in, sem_ni, sem_ixL, sem_ixT, sem_ixS, sem_lenL, sem_lenT, sem_lenS, sem_abs, sem_max2, sem_min2, sem_tupL, sem_tupT, sem_listL, sem_listT, sem_sorted, sem_all, sem_intB, sem_intI, sem_isL, sem_mkL0, sem_mkL1, sem_mkL2, sem_mkL3, sem_mkT0, sem_mkT1, sem_mkT2, sem_mkT3, Mini.isLst, Mini.fill, Mini.refs, Mini.ref1, Mini.backR, Option.map_some, Mini.unpD, Mini.bindL, Mini.bindT, Mini.itemsD, Mini.recM, Mini.isNon, Mini.wOut, Mini.outsOf, Mini.own, List.take, true_and, and_true, if_true, Bool.false_eq_true, if_false, at3_0, at3_1, at3_2, at2_0, at2_1, ix3_0, ix3_1, ix3_2, List.length_cons, List.length_nil, List.set_cons_zero, List.set_cons_succ, Nat.zero_add, Nat.reduceAdd, sem_fdivS, sem_mulS, sem_mod]
  refine ⟨by omega, ?_⟩
  refine comp_rng (fun i acc s => ∃ (a b c : Int) (rs row : List Int), acc = row.map .int ∧ row.length = i ∧ (rs.length : Int) = many - i ∧ s = [some (pot a b c), some (.int many), some (.int size), some (.lst (rs.map .int)), none, none] ∧ (rs ++ row).Nodup ∧ ∀ x ∈ rs ++ row, 0 ≤ x ∧ x < many) ⟨a, b, c, rg 0 many.toNat, [], rfl, rfl, by rw [rg_len]; omega, rfl, by rw [List.append_nil]; exact rg_nodup, fun x hx => by rw [List.append_nil] at hx; have := rg_mem hx; omega⟩ ?_ ?_
  · rintro i acc s hi ⟨a, b, c, rs, row, rfl, e1, e2, rfl, hN, hR⟩
    simp (maxSteps := 2000000) (disch := first | assumption | omega) only [List.length_map, wSs_nil, wS_set, wS_unp, wS_sidx, wS_smt, wS_ex, wS_ret, wS_ite, wS_pass, wE_cst, wE_glb, wE_var, wE_sv, wE_mv, wE_rf, wE_frz, wE_op, wEs_nil, wEs_cons, wE_and, wE_or, wE_ite, wE_call, wE_bm, wE_pop, wK_none, wK_some, wR_seq, wR_rng1, wR_rng2, wR_zip, oS_some, bS_bl, iS_int, Mini.get, Mini.put, Mini.clear, Mini.back, Mini.scal, sem_neg, sem_not, sem_isN, sem_notN, sem_addI, sem_sub, sem_lt, sem_le, sem_gt, sem_ge, sem_eq, sem_ne, sem_in, sem_ni, sem_ixL, sem_ixT, sem_ixS, sem_lenL, sem_lenT, sem_lenS, sem_abs, sem_max2, sem_min2, sem_tupL, sem_tupT, sem_listL, sem_listT, sem_sorted, sem_all, sem_intB, sem_intI, sem_isL, sem_mkL0, sem_mkL1, sem_mkL2, sem_mkL3, sem_mkT0, sem_mkT1, sem_mkT2, sem_mkT3, Mini.isLst, Mini.fill, Mini.refs, Mini.ref1, Mini.backR, Option.map_some, Mini.unpD, Mini.bindL, Mini.bindT, Mini.itemsD, Mini.recM, Mini.isNon, Mini.wOut, Mini.outsOf, Mini.own, List.take, true_and, and_true, if_true, Bool.false_eq_true, if_false, at3_0, at3_1, at3_2, at2_0, at2_1, ix3_0, ix3_1, ix3_2, List.length_cons, List.length_nil, List.set_cons_zero, List.set_cons_succ, Nat.zero_add, Nat.reduceAdd, sem_fdivS, sem_mulS, sem_mod]
    refine wC_mono (take_ok n a b c _ (by omega) (by omega)) ?_
    rintro d os ⟨r, a, b, c, rfl, r1, r2, rfl⟩
    have e3 := ixN_int (n := rs.length) r1 r2
    have e4 : (rs.map D.int)[r.toNat]? = some (.int (rs.getD r.toNat 0)) := by
      rw [List.getElem?_map, List.getD_eq_getElem?_getD, List.getElem?_eq_getElem (by omega)]
      rfl
    have e5 : (rs.map D.int).eraseIdx r.toNat = (rs.eraseIdx r.toNat).map .int := by
      exact erase_map _ _
    have pm : (rs.eraseIdx r.toNat ++ (row ++ [rs.getD r.toNat 0])).Perm (rs ++ row) := by
      have hlt : r.toNat < rs.length := by omega
      have g : rs.getD r.toNat 0 = rs[r.toNat] := by
        rw [List.getD_eq_getElem?_getD, List.getElem?_eq_getElem hlt]
        rfl
      have p1 := erase_perm rs r.toNat hlt
      rw [g, ← List.append_assoc]
      exact (List.perm_append_comm.trans (by rw [← List.append_assoc]; exact p1.append_right row))
    simp (maxSteps := 2000000) (disch := first | assumption | omega) only [List.length_map, e3, e4, e5, wSs_nil, wS_set, wS_unp, wS_sidx, wS_smt, wS_ex, wS_ret, wS_ite, wS_pass, wE_cst, wE_glb, wE_var, wE_sv, wE_mv, wE_rf, wE_frz, wE_op, wEs_nil, wEs_cons, wE_and, wE_or, wE_ite, wE_call, wE_bm, wE_pop, wK_none, wK_some, wR_seq, wR_rng1, wR_rng2, wR_zip, oS_some, bS_bl, iS_int, Mini.get, Mini.put, Mini.clear, Mini.back, Mini.scal, sem_neg, sem_not, sem_isN, sem_notN, sem_addI, sem_sub, sem_lt, sem_le, sem_gt, sem_ge, sem_eq, sem_ne, sem_in, sem_ni, sem_ixL, sem_ixT, sem_ixS, sem_lenL, sem_lenT, sem_lenS, sem_abs, sem_max2, sem_min2, sem_tupL, sem_tupT, sem_listL, sem_listT, sem_sorted, sem_all, sem_intB, sem_intI, sem_isL, sem_mkL0, sem_mkL1, sem_mkL2, sem_mkL3, sem_mkT0, sem_mkT1, sem_mkT2, sem_mkT3, Mini.isLst, Mini.fill, Mini.refs, Mini.ref1, Mini.backR, Option.map_some, Mini.unpD, Mini.bindL, Mini.bindT, Mini.itemsD, Mini.recM, Mini.isNon, Mini.wOut, Mini.outsOf, Mini.own, List.take, true_and, and_true, if_true, Bool.false_eq_true, if_false, at3_0, at3_1, at3_2, at2_0, at2_1, ix3_0, ix3_1, ix3_2, List.length_cons, List.length_nil, List.set_cons_zero, List.set_cons_succ, Nat.zero_add, Nat.reduceAdd, sem_fdivS, sem_mulS, sem_mod]
    refine ⟨by omega, by omega, a, b, c, rs.eraseIdx r.toNat, row ++ [rs.getD r.toNat 0], by rw [List.map_append]; rfl, by simp [e1], ?_, rfl, pm.nodup_iff.mpr hN, fun x hx => hR x (pm.mem_iff.mp hx)⟩
    rw [List.length_eraseIdx, if_pos (by omega)]
    omega
  · rintro rr s ⟨a, b, c, rs, row, rfl, e1, e2, rfl, hN, hR⟩
    refine ⟨by rw [List.length_map, limE]; omega, ?_⟩
    simp (maxSteps := 2000000) (disch := first | assumption | omega) only [wSs_nil, wS_set, wS_unp, wS_sidx, wS_smt, wS_ex, wS_ret, wS_ite, wS_pass, wE_cst, wE_glb, wE_var, wE_sv, wE_mv, wE_rf, wE_frz, wE_op, wEs_nil, wEs_cons, wE_and, wE_or, wE_ite, wE_call, wE_bm, wE_pop, wK_none, wK_some, wR_seq, wR_rng1, wR_rng2, wR_zip, oS_some, bS_bl, iS_int, Mini.get, Mini.put, Mini.clear, Mini.back, Mini.scal, sem_neg, sem_not, sem_isN, sem_notN, sem_addI, sem_sub, sem_lt, sem_le, sem_gt, sem_ge, sem_eq, sem_ne, sem_in, sem_ni, sem_ixL, sem_ixT, sem_ixS, sem_lenL, sem_lenT, sem_lenS, sem_abs, sem_max2, sem_min2, sem_tupL, sem_tupT, sem_listL, sem_listT, sem_sorted, sem_all, sem_intB, sem_intI, sem_isL, sem_mkL0, sem_mkL1, sem_mkL2, sem_mkL3, sem_mkT0, sem_mkT1, sem_mkT2, sem_mkT3, Mini.isLst, Mini.fill, Mini.refs, Mini.ref1, Mini.backR, Option.map_some, Mini.unpD, Mini.bindL, Mini.bindT, Mini.itemsD, Mini.recM, Mini.isNon, Mini.wOut, Mini.outsOf, Mini.own, List.take, true_and, and_true, if_true, Bool.false_eq_true, if_false, at3_0, at3_1, at3_2, at2_0, at2_1, ix3_0, ix3_1, ix3_2, List.length_cons, List.length_nil, List.set_cons_zero, List.set_cons_succ, Nat.zero_add, Nat.reduceAdd, sem_fdivS, sem_mulS, sem_mod]
    (rw [wSs_cons]; simp (maxSteps := 2000000) (disch := first | assumption | omega) only [wSs_nil, wS_set, wS_unp, wS_sidx, wS_smt, wS_ex, wS_ret, wS_ite, wS_pass, wE_cst, wE_glb, wE_var, wE_sv, wE_mv, wE_rf, wE_frz, wE_op, wEs_nil, wEs_cons, wE_and, wE_or, wE_ite, wE_call, wE_bm, wE_pop, wK_none, wK_some, wR_seq, wR_rng1, wR_rng2, wR_zip, oS_some, bS_bl, iS_int, Mini.get, Mini.put, Mini.clear, Mini.back, Mini.scal, sem_neg, sem_not, sem_isN, sem_notN, sem_addI, sem_sub, sem_lt, sem_le, sem_gt, sem_ge, sem_eq, sem_ne, sem_in, sem_ni, sem_ixL, sem_ixT, sem_ixS, sem_lenL, sem_lenT, sem_lenS, sem_abs, sem_max2, sem_min2, sem_tupL, sem_tupT, sem_listL, sem_listT, sem_sorted, sem_all, sem_intB, sem_intI, sem_isL, sem_mkL0, sem_mkL1, sem_mkL2, sem_mkL3, sem_mkT0, sem_mkT1, sem_mkT2, sem_mkT3, Mini.isLst, Mini.fill, Mini.refs, Mini.ref1, Mini.backR, Option.map_some, Mini.unpD, Mini.bindL, Mini.bindT, Mini.itemsD, Mini.recM, Mini.isNon, Mini.wOut, Mini.outsOf, Mini.own, List.take, true_and, and_true, if_true, Bool.false_eq_true, if_false, at3_0, at3_1, at3_2, at2_0, at2_1, ix3_0, ix3_1, ix3_2, List.length_cons, List.length_nil, List.set_cons_zero, List.set_cons_succ, Nat.zero_add, Nat.reduceAdd, sem_fdivS, sem_mulS, sem_mod])
    refine wE_comp ?_
    simp (maxSteps := 2000000) (disch := first | assumption | omega) only [wSs_nil, wS_set, wS_unp, wS_sidx, wS_smt, wS_ex, wS_ret, wS_ite, wS_pass, wE_cst, wE_glb, wE_var, wE_sv, wE_mv, wE_rf, wE_frz, wE_op, wEs_nil, wEs_cons, wE_and, wE_or, wE_ite, wE_call, wE_bm, wE_pop, wK_none, wK_some, wR_seq, wR_rng1, wR_rng2, wR_zip, oS_some, bS_bl, iS_int, Mini.get, Mini.put, Mini.clear, Mini.back, Mini.scal, sem_neg, sem_not, sem_isN, sem_notN, sem_addI, sem_sub, sem_lt, sem_le, sem_gt, sem_ge, sem_eq, sem_ne, sem_in, sem_ni, sem_ixL, sem_ixT, sem_ixS, sem_lenL, sem_lenT, sem_lenS, sem_abs, sem_max2, sem_min2, sem_tupL, sem_tupT, sem_listL, sem_listT, sem_sorted, sem_all, sem_intB, sem_intI, sem_isL, sem_mkL0, sem_mkL1, sem_mkL2, sem_mkL3, sem_mkT0, sem_mkT1, sem_mkT2, sem_mkT3, Mini.isLst, Mini.fill, Mini.refs, Mini.ref1, Mini.backR, Option.map_some, Mini.unpD, Mini.bindL, Mini.bindT, Mini.itemsD, Mini.recM, Mini.isNon, Mini.wOut, Mini.outsOf, Mini.own, List.take, true_and, and_true, if_true, Bool.false_eq_true, if_false, at3_0, at3_1, at3_2, at2_0, at2_1, ix3_0, ix3_1, ix3_2, List.length_cons, List.length_nil, List.set_cons_zero, List.set_cons_succ, Nat.zero_add, Nat.reduceAdd, sem_fdivS, sem_mulS, sem_mod]
    refine ⟨by omega, ?_⟩
    rw [rngD_rg]
    refine comp_map (rg 0 _) D.int (fun x => prD (pv row x, row.getD x.toNat 0)) (by rw [limE, rg_len]; omega) (fun x hx => ?_) ?_
    · obtain ⟨g1, g2⟩ := rg_mem hx
      have f1 := at_pv (row := row) (x := x) g1 (by omega)
      have f2 := at_ints (t := row) (x := x) g1 (by omega)
      simp (maxSteps := 2000000) (disch := first | assumption | omega) only [prD, f1, f2, wSs_nil, wS_set, wS_unp, wS_sidx, wS_smt, wS_ex, wS_ret, wS_ite, wS_pass, wE_cst, wE_glb, wE_var, wE_sv, wE_mv, wE_rf, wE_frz, wE_op, wEs_nil, wEs_cons, wE_and, wE_or, wE_ite, wE_call, wE_bm, wE_pop, wK_none, wK_some, wR_seq, wR_rng1, wR_rng2, wR_zip, oS_some, bS_bl, iS_int, Mini.get, Mini.put, Mini.clear, Mini.back, Mini.scal, sem_neg, sem_not, sem_isN, sem_notN, sem_addI, sem_sub, sem_lt, sem_le, sem_gt, sem_ge, sem_eq, sem_ne, sem_in, sem_ni, sem_ixL, sem_ixT, sem_ixS, sem_lenL, sem_lenT, sem_lenS, sem_abs, sem_max2, sem_min2, sem_tupL, sem_tupT, sem_listL, sem_listT, sem_sorted, sem_all, sem_intB, sem_intI, sem_isL, sem_mkL0, sem_mkL1, sem_mkL2, sem_mkL3, sem_mkT0, sem_mkT1, sem_mkT2, sem_mkT3, Mini.isLst, Mini.fill, Mini.refs, Mini.ref1, Mini.backR, Option.map_some, Mini.unpD, Mini.bindL, Mini.bindT, Mini.itemsD, Mini.recM, Mini.isNon, Mini.wOut, Mini.outsOf, Mini.own, List.take, true_and, and_true, if_true, Bool.false_eq_true, if_false, at3_0, at3_1, at3_2, at2_0, at2_1, ix3_0, ix3_1, ix3_2, List.length_cons, List.length_nil, List.set_cons_zero, List.set_cons_succ, Nat.zero_add, Nat.reduceAdd, sem_fdivS, sem_mulS, sem_mod]
    · simp (maxSteps := 2000000) (disch := first | assumption | omega) only [wSs_nil, wS_set, wS_unp, wS_sidx, wS_smt, wS_ex, wS_ret, wS_ite, wS_pass, wE_cst, wE_glb, wE_var, wE_sv, wE_mv, wE_rf, wE_frz, wE_op, wEs_nil, wEs_cons, wE_and, wE_or, wE_ite, wE_call, wE_bm, wE_pop, wK_none, wK_some, wR_seq, wR_rng1, wR_rng2, wR_zip, oS_some, bS_bl, iS_int, Mini.get, Mini.put, Mini.clear, Mini.back, Mini.scal, sem_neg, sem_not, sem_isN, sem_notN, sem_addI, sem_sub, sem_lt, sem_le, sem_gt, sem_ge, sem_eq, sem_ne, sem_in, sem_ni, sem_ixL, sem_ixT, sem_ixS, sem_lenL, sem_lenT, sem_lenS, sem_abs, sem_max2, sem_min2, sem_tupL, sem_tupT, sem_listL, sem_listT, sem_sorted, sem_all, sem_intB, sem_intI, sem_isL, sem_mkL0, sem_mkL1, sem_mkL2, sem_mkL3, sem_mkT0, sem_mkT1, sem_mkT2, sem_mkT3, Mini.isLst, Mini.fill, Mini.refs, Mini.ref1, Mini.backR, Option.map_some, Mini.unpD, Mini.bindL, Mini.bindT, Mini.itemsD, Mini.recM, Mini.isNon, Mini.wOut, Mini.outsOf, Mini.own, List.take, true_and, and_true, if_true, Bool.false_eq_true, if_false, at3_0, at3_1, at3_2, at2_0, at2_1, ix3_0, ix3_1, ix3_2, List.length_cons, List.length_nil, List.set_cons_zero, List.set_cons_succ, Nat.zero_add, Nat.reduceAdd, sem_fdivS, sem_mulS, sem_mod]
      have hrl : row.length = size.toNat := by omega
      have hB : Bal many ((rg 0 size.toNat).map (fun x => (pv row x, row.getD x.toNat 0))) := by
        rw [← hrl]
        refine cyc_bal (fun e => by rw [e] at hrl; simp at hrl; omega) (List.nodup_append.mp hN).2.1 fun x hx => hR x (List.mem_append_right _ hx)
      refine ⟨(rg 0 size.toNat).map (fun x => (pv row x, row.getD x.toNat 0)), a, b, c, ?_, ?_, hB, rfl⟩
      · rw [List.map_map]
        rfl
      · rw [List.length_map, rg_len]
        omega
theorem way_ok (n : Nat) (a b c many : Int) (h1 : 2 ≤ many) (h2 : many ≤ 32) : wC (callF fds (n + 3) 9 [pot a b c, .int many]) fun d os => ∃ (ps : List (Int × Int)) (a' b' c' : Int), d = .lst (ps.map prD) ∧ ps.length ≤ 1000 ∧ Bal many ps ∧ os = [some (pot a' b' c'), none] := by
  refine wC_call (fd := f9) rfl rfl ?_
  show wSs (callF fds (n + 2)) f9.body [some (pot a b c), some (.int many), none, none, none, none] _ _
  simp only [f9]
  (rw [wSs_cons]; simp (maxSteps := 2000000) (disch := first | assumption | omega) only [wSs_nil, wS_set, wS_unp, wS_sidx, wS_smt, wS_ex, wS_ret, wS_ite, wS_pass, wE_cst, wE_glb, wE_var, wE_sv, wE_mv, wE_rf, wE_frz, wE_op, wEs_nil, wEs_cons, wE_and, wE_or, wE_ite, wE_call, wE_bm, wE_pop, wK_none, wK_some, wR_seq, wR_rng1, wR_rng2, wR_zip, oS_some, bS_bl, iS_int, Mini.get, Mini.put, Mini.clear, Mini.back, Mini.scal, sem_neg, sem_not, sem_isN, sem_notN, sem_addI, sem_sub, sem_lt, sem_le, sem_gt, sem_ge, sem_eq, sem_ne, sem_in, sem_ni, sem_ixL, sem_ixT, sem_ixS, sem_lenL, sem_lenT, sem_lenS, sem_abs, sem_max2, sem_min2, sem_tupL, sem_tupT, sem_listL, sem_listT, sem_sorted, sem_all, sem_intB, sem_intI, sem_isL, sem_mkL0, sem_mkL1, sem_mkL2, sem_mkL3, sem_mkT0, sem_mkT1, sem_mkT2, sem_mkT3, Mini.isLst, Mini.fill, Mini.refs, Mini.ref1, Mini.backR, Option.map_some, Mini.unpD, Mini.bindL, Mini.bindT, Mini.itemsD, Mini.recM, Mini.isNon, Mini.wOut, Mini.outsOf, Mini.own, List.take, true_and, and_true, if_true, Bool.false_eq_true, if_false, at3_0, at3_1, at3_2, at2_0, at2_1, ix3_0, ix3_1, ix3_2, List.length_cons, List.length_nil, List.set_cons_zero, List.set_cons_succ, Nat.zero_add, Nat.reduceAdd, sem_fdivS, sem_mulS, sem_mod])
  refine wC_mono (cyc_ok n a b c many many (by omega) (by omega) h2) ?_
  rintro d os ⟨p0, a, b, c, rfl, hp0, hB0, rfl⟩
  simp (maxSteps := 2000000) (disch := first | assumption | omega) only [wSs_nil, wS_set, wS_unp, wS_sidx, wS_smt, wS_ex, wS_ret, wS_ite, wS_pass, wE_cst, wE_glb, wE_var, wE_sv, wE_mv, wE_rf, wE_frz, wE_op, wEs_nil, wEs_cons, wE_and, wE_or, wE_ite, wE_call, wE_bm, wE_pop, wK_none, wK_some, wR_seq, wR_rng1, wR_rng2, wR_zip, oS_some, bS_bl, iS_int, Mini.get, Mini.put, Mini.clear, Mini.back, Mini.scal, sem_neg, sem_not, sem_isN, sem_notN, sem_addI, sem_sub, sem_lt, sem_le, sem_gt, sem_ge, sem_eq, sem_ne, sem_in, sem_ni, sem_ixL, sem_ixT, sem_ixS, sem_lenL, sem_lenT, sem_lenS, sem_abs, sem_max2, sem_min2, sem_tupL, sem_tupT, sem_listL, sem_listT, sem_sorted, sem_all, sem_intB, sem_intI, sem_isL, sem_mkL0, sem_mkL1, sem_mkL2, sem_mkL3, sem_mkT0, sem_mkT1, sem_mkT2, sem_mkT3, Mini.isLst, Mini.fill, Mini.refs, Mini.ref1, Mini.backR, Option.map_some, Mini.unpD, Mini.bindL, Mini.bindT, Mini.itemsD, Mini.recM, Mini.isNon, Mini.wOut, Mini.outsOf, Mini.own, List.take, true_and, and_true, if_true, Bool.false_eq_true, if_false, at3_0, at3_1, at3_2, at2_0, at2_1, ix3_0, ix3_1, ix3_2, List.length_cons, List.length_nil, List.set_cons_zero, List.set_cons_succ, Nat.zero_add, Nat.reduceAdd, sem_fdivS, sem_mulS, sem_mod]
  rw [wSs_cons]
  refine wS_for ?_
  simp (maxSteps := 2000000) (disch := first | assumption | omega) only [wSs_nil, wS_set, wS_unp, wS_sidx, wS_smt, wS_ex, wS_ret, wS_ite, wS_pass, wE_cst, wE_glb, wE_var, wE_sv, wE_mv, wE_rf, wE_frz, wE_op, wEs_nil, wEs_cons, wE_and, wE_or, wE_ite, wE_call, wE_bm, wE_pop, wK_none, wK_some, wR_seq, wR_rng1, wR_rng2, wR_zip, oS_some, bS_bl, iS_int, Mini.get, Mini.put, Mini.clear, Mini.back, Mini.scal, sem_neg, sem_not, sem_isN, sem_notN, sem_addI, sem_sub, sem_lt, sem_le, sem_gt, sem_ge, sem_eq, sem_ne, sem_in, sem_ni, sem_ixL, sem_ixT, sem_ixS, sem_lenL, sem_lenT, sem_lenS, sem_abs, sem_max2, sem_min2, sem_tupL, sem_tupT, sem_listL, sem_listT, sem_sorted, sem_all, sem_intB, sem_intI, sem_isL, sem_mkL0, sem_mkL1, sem_mkL2, sem_mkL3, sem_mkT0, sem_mkT1, sem_mkT2, sem_mkT3, Mini.isLst, Mini.fill, Mini.refs, Mini.ref1, Mini.backR, Option.map_some, Mini.unpD, Mini.bindL, Mini.bindT, Mini.itemsD, Mini.recM, Mini.isNon, Mini.wOut, Mini.outsOf, Mini.own, List.take, true_and, and_true, if_true, Bool.false_eq_true, if_false, at3_0, at3_1, at3_2, at2_0, at2_1, ix3_0, ix3_1, ix3_2, List.length_cons, List.length_nil, List.set_cons_zero, List.set_cons_succ, Nat.zero_add, Nat.reduceAdd, sem_fdivS, sem_mulS, sem_mod]
  refine wC_mono (take_ok (n + 1) a b c 6 (by omega) (by omega)) ?_
  rintro d os ⟨r, a, b, c, rfl, r1, r2, rfl⟩
  simp (maxSteps := 2000000) (disch := first | assumption | omega) only [wSs_nil, wS_set, wS_unp, wS_sidx, wS_smt, wS_ex, wS_ret, wS_ite, wS_pass, wE_cst, wE_glb, wE_var, wE_sv, wE_mv, wE_rf, wE_frz, wE_op, wEs_nil, wEs_cons, wE_and, wE_or, wE_ite, wE_call, wE_bm, wE_pop, wK_none, wK_some, wR_seq, wR_rng1, wR_rng2, wR_zip, oS_some, bS_bl, iS_int, Mini.get, Mini.put, Mini.clear, Mini.back, Mini.scal, sem_neg, sem_not, sem_isN, sem_notN, sem_addI, sem_sub, sem_lt, sem_le, sem_gt, sem_ge, sem_eq, sem_ne, sem_in, sem_ni, sem_ixL, sem_ixT, sem_ixS, sem_lenL, sem_lenT, sem_lenS, sem_abs, sem_max2, sem_min2, sem_tupL, sem_tupT, sem_listL, sem_listT, sem_sorted, sem_all, sem_intB, sem_intI, sem_isL, sem_mkL0, sem_mkL1, sem_mkL2, sem_mkL3, sem_mkT0, sem_mkT1, sem_mkT2, sem_mkT3, Mini.isLst, Mini.fill, Mini.refs, Mini.ref1, Mini.backR, Option.map_some, Mini.unpD, Mini.bindL, Mini.bindT, Mini.itemsD, Mini.recM, Mini.isNon, Mini.wOut, Mini.outsOf, Mini.own, List.take, true_and, and_true, if_true, Bool.false_eq_true, if_false, at3_0, at3_1, at3_2, at2_0, at2_1, ix3_0, ix3_1, ix3_2, List.length_cons, List.length_nil, List.set_cons_zero, List.set_cons_succ, Nat.zero_add, Nat.reduceAdd, sem_fdivS, sem_mulS, sem_mod]
  refine ⟨by omega, ?_⟩
  refine rng_loop (fun i s => ∃ (a b c : Int) (ps : List (Int × Int)) (x3 x4 : Option D), s = [some (pot a b c), some (.int many), some (.lst (ps.map prD)), x3, x4, none] ∧ ps.length ≤ 32 + 32 * i ∧ Bal many ps) ⟨a, b, c, p0, none, none, rfl, by omega, hB0⟩ ?_ ?_
  · rintro i s hi ⟨a, b, c, ps, x3, x4, rfl, e1, hB⟩
    simp (maxSteps := 2000000) (disch := first | assumption | omega) only [wSs_nil, wS_set, wS_unp, wS_sidx, wS_smt, wS_ex, wS_ret, wS_ite, wS_pass, wE_cst, wE_glb, wE_var, wE_sv, wE_mv, wE_rf, wE_frz, wE_op, wEs_nil, wEs_cons, wE_and, wE_or, wE_ite, wE_call, wE_bm, wE_pop, wK_none, wK_some, wR_seq, wR_rng1, wR_rng2, wR_zip, oS_some, bS_bl, iS_int, Mini.get, Mini.put, Mini.clear, Mini.back, Mini.scal, sem_neg, sem_not, sem_isN, sem_notN, sem_addI, sem_sub, sem_lt, sem_le, sem_gt, sem_ge, sem_eq, sem_ne, sem_in, sem_ni, sem_ixL, sem_ixT, sem_ixS, sem_lenL, sem_lenT, sem_lenS, sem_abs, sem_max2, sem_min2, sem_tupL, sem_tupT, sem_listL, sem_listT, sem_sorted, sem_all, sem_intB, sem_intI, sem_isL, sem_mkL0, sem_mkL1, sem_mkL2, sem_mkL3, sem_mkT0, sem_mkT1, sem_mkT2, sem_mkT3, Mini.isLst, Mini.fill, Mini.refs, Mini.ref1, Mini.backR, Option.map_some, Mini.unpD, Mini.bindL, Mini.bindT, Mini.itemsD, Mini.recM, Mini.isNon, Mini.wOut, Mini.outsOf, Mini.own, List.take, true_and, and_true, if_true, Bool.false_eq_true, if_false, at3_0, at3_1, at3_2, at2_0, at2_1, ix3_0, ix3_1, ix3_2, List.length_cons, List.length_nil, List.set_cons_zero, List.set_cons_succ, Nat.zero_add, Nat.reduceAdd, sem_fdivS, sem_mulS, sem_mod]
    (rw [wSs_cons]; simp (maxSteps := 2000000) (disch := first | assumption | omega) only [wSs_nil, wS_set, wS_unp, wS_sidx, wS_smt, wS_ex, wS_ret, wS_ite, wS_pass, wE_cst, wE_glb, wE_var, wE_sv, wE_mv, wE_rf, wE_frz, wE_op, wEs_nil, wEs_cons, wE_and, wE_or, wE_ite, wE_call, wE_bm, wE_pop, wK_none, wK_some, wR_seq, wR_rng1, wR_rng2, wR_zip, oS_some, bS_bl, iS_int, Mini.get, Mini.put, Mini.clear, Mini.back, Mini.scal, sem_neg, sem_not, sem_isN, sem_notN, sem_addI, sem_sub, sem_lt, sem_le, sem_gt, sem_ge, sem_eq, sem_ne, sem_in, sem_ni, sem_ixL, sem_ixT, sem_ixS, sem_lenL, sem_lenT, sem_lenS, sem_abs, sem_max2, sem_min2, sem_tupL, sem_tupT, sem_listL, sem_listT, sem_sorted, sem_all, sem_intB, sem_intI, sem_isL, sem_mkL0, sem_mkL1, sem_mkL2, sem_mkL3, sem_mkT0, sem_mkT1, sem_mkT2, sem_mkT3, Mini.isLst, Mini.fill, Mini.refs, Mini.ref1, Mini.backR, Option.map_some, Mini.unpD, Mini.bindL, Mini.bindT, Mini.itemsD, Mini.recM, Mini.isNon, Mini.wOut, Mini.outsOf, Mini.own, List.take, true_and, and_true, if_true, Bool.false_eq_true, if_false, at3_0, at3_1, at3_2, at2_0, at2_1, ix3_0, ix3_1, ix3_2, List.length_cons, List.length_nil, List.set_cons_zero, List.set_cons_succ, Nat.zero_add, Nat.reduceAdd, sem_fdivS, sem_mulS, sem_mod])
    refine wC_mono (take_ok (n + 1) a b c _ (by omega) (by omega)) ?_
    rintro d os ⟨r', a, b, c, rfl, q1, q2, rfl⟩
    simp (maxSteps := 2000000) (disch := first | assumption | omega) only [wSs_nil, wS_set, wS_unp, wS_sidx, wS_smt, wS_ex, wS_ret, wS_ite, wS_pass, wE_cst, wE_glb, wE_var, wE_sv, wE_mv, wE_rf, wE_frz, wE_op, wEs_nil, wEs_cons, wE_and, wE_or, wE_ite, wE_call, wE_bm, wE_pop, wK_none, wK_some, wR_seq, wR_rng1, wR_rng2, wR_zip, oS_some, bS_bl, iS_int, Mini.get, Mini.put, Mini.clear, Mini.back, Mini.scal, sem_neg, sem_not, sem_isN, sem_notN, sem_addI, sem_sub, sem_lt, sem_le, sem_gt, sem_ge, sem_eq, sem_ne, sem_in, sem_ni, sem_ixL, sem_ixT, sem_ixS, sem_lenL, sem_lenT, sem_lenS, sem_abs, sem_max2, sem_min2, sem_tupL, sem_tupT, sem_listL, sem_listT, sem_sorted, sem_all, sem_intB, sem_intI, sem_isL, sem_mkL0, sem_mkL1, sem_mkL2, sem_mkL3, sem_mkT0, sem_mkT1, sem_mkT2, sem_mkT3, Mini.isLst, Mini.fill, Mini.refs, Mini.ref1, Mini.backR, Option.map_some, Mini.unpD, Mini.bindL, Mini.bindT, Mini.itemsD, Mini.recM, Mini.isNon, Mini.wOut, Mini.outsOf, Mini.own, List.take, true_and, and_true, if_true, Bool.false_eq_true, if_false, at3_0, at3_1, at3_2, at2_0, at2_1, ix3_0, ix3_1, ix3_2, List.length_cons, List.length_nil, List.set_cons_zero, List.set_cons_succ, Nat.zero_add, Nat.reduceAdd, sem_fdivS, sem_mulS, sem_mod]
    refine wC_mono (cyc_ok n a b c many (2 + r') (by omega) (by omega) h2) ?_
    rintro d os ⟨mo, a, b, c, rfl, hmo, hBm, rfl⟩
    simp (maxSteps := 2000000) (disch := first | assumption | omega) only [wSs_nil, wS_set, wS_unp, wS_sidx, wS_smt, wS_ex, wS_ret, wS_ite, wS_pass, wE_cst, wE_glb, wE_var, wE_sv, wE_mv, wE_rf, wE_frz, wE_op, wEs_nil, wEs_cons, wE_and, wE_or, wE_ite, wE_call, wE_bm, wE_pop, wK_none, wK_some, wR_seq, wR_rng1, wR_rng2, wR_zip, oS_some, bS_bl, iS_int, Mini.get, Mini.put, Mini.clear, Mini.back, Mini.scal, sem_neg, sem_not, sem_isN, sem_notN, sem_addI, sem_sub, sem_lt, sem_le, sem_gt, sem_ge, sem_eq, sem_ne, sem_in, sem_ni, sem_ixL, sem_ixT, sem_ixS, sem_lenL, sem_lenT, sem_lenS, sem_abs, sem_max2, sem_min2, sem_tupL, sem_tupT, sem_listL, sem_listT, sem_sorted, sem_all, sem_intB, sem_intI, sem_isL, sem_mkL0, sem_mkL1, sem_mkL2, sem_mkL3, sem_mkT0, sem_mkT1, sem_mkT2, sem_mkT3, Mini.isLst, Mini.fill, Mini.refs, Mini.ref1, Mini.backR, Option.map_some, Mini.unpD, Mini.bindL, Mini.bindT, Mini.itemsD, Mini.recM, Mini.isNon, Mini.wOut, Mini.outsOf, Mini.own, List.take, true_and, and_true, if_true, Bool.false_eq_true, if_false, at3_0, at3_1, at3_2, at2_0, at2_1, ix3_0, ix3_1, ix3_2, List.length_cons, List.length_nil, List.set_cons_zero, List.set_cons_succ, Nat.zero_add, Nat.reduceAdd, sem_fdivS, sem_mulS, sem_mod]
    (rw [wSs_cons]; simp (maxSteps := 2000000) (disch := first | assumption | omega) only [wSs_nil, wS_set, wS_unp, wS_sidx, wS_smt, wS_ex, wS_ret, wS_ite, wS_pass, wE_cst, wE_glb, wE_var, wE_sv, wE_mv, wE_rf, wE_frz, wE_op, wEs_nil, wEs_cons, wE_and, wE_or, wE_ite, wE_call, wE_bm, wE_pop, wK_none, wK_some, wR_seq, wR_rng1, wR_rng2, wR_zip, oS_some, bS_bl, iS_int, Mini.get, Mini.put, Mini.clear, Mini.back, Mini.scal, sem_neg, sem_not, sem_isN, sem_notN, sem_addI, sem_sub, sem_lt, sem_le, sem_gt, sem_ge, sem_eq, sem_ne, sem_in, sem_ni, sem_ixL, sem_ixT, sem_ixS, sem_lenL, sem_lenT, sem_lenS, sem_abs, sem_max2, sem_min2, sem_tupL, sem_tupT, sem_listL, sem_listT, sem_sorted, sem_all, sem_intB, sem_intI, sem_isL, sem_mkL0, sem_mkL1, sem_mkL2, sem_mkL3, sem_mkT0, sem_mkT1, sem_mkT2, sem_mkT3, Mini.isLst, Mini.fill, Mini.refs, Mini.ref1, Mini.backR, Option.map_some, Mini.unpD, Mini.bindL, Mini.bindT, Mini.itemsD, Mini.recM, Mini.isNon, Mini.wOut, Mini.outsOf, Mini.own, List.take, true_and, and_true, if_true, Bool.false_eq_true, if_false, at3_0, at3_1, at3_2, at2_0, at2_1, ix3_0, ix3_1, ix3_2, List.length_cons, List.length_nil, List.set_cons_zero, List.set_cons_succ, Nat.zero_add, Nat.reduceAdd, sem_fdivS, sem_mulS, sem_mod])
    refine wE_comp ?_
    simp (maxSteps := 2000000) (disch := first | assumption | omega) only [wSs_nil, wS_set, wS_unp, wS_sidx, wS_smt, wS_ex, wS_ret, wS_ite, wS_pass, wE_cst, wE_glb, wE_var, wE_sv, wE_mv, wE_rf, wE_frz, wE_op, wEs_nil, wEs_cons, wE_and, wE_or, wE_ite, wE_call, wE_bm, wE_pop, wK_none, wK_some, wR_seq, wR_rng1, wR_rng2, wR_zip, oS_some, bS_bl, iS_int, Mini.get, Mini.put, Mini.clear, Mini.back, Mini.scal, sem_neg, sem_not, sem_isN, sem_notN, sem_addI, sem_sub, sem_lt, sem_le, sem_gt, sem_ge, sem_eq, sem_ne, sem_in, sem_ni, sem_ixL, sem_ixT, sem_ixS, sem_lenL, sem_lenT, sem_lenS, sem_abs, sem_max2, sem_min2, sem_tupL, sem_tupT, sem_listL, sem_listT, sem_sorted, sem_all, sem_intB, sem_intI, sem_isL, sem_mkL0, sem_mkL1, sem_mkL2, sem_mkL3, sem_mkT0, sem_mkT1, sem_mkT2, sem_mkT3, Mini.isLst, Mini.fill, Mini.refs, Mini.ref1, Mini.backR, Option.map_some, Mini.unpD, Mini.bindL, Mini.bindT, Mini.itemsD, Mini.recM, Mini.isNon, Mini.wOut, Mini.outsOf, Mini.own, List.take, true_and, and_true, if_true, Bool.false_eq_true, if_false, at3_0, at3_1, at3_2, at2_0, at2_1, ix3_0, ix3_1, ix3_2, List.length_cons, List.length_nil, List.set_cons_zero, List.set_cons_succ, Nat.zero_add, Nat.reduceAdd, sem_fdivS, sem_mulS, sem_mod]
    refine comp_fm mo prD (fun p => decide (p ∈ ps)) prD (by rw [limE]; omega) (fun p hp => ?_) ?_
    · simp (maxSteps := 2000000) (disch := first | assumption | omega) only [in_prs, wSs_nil, wS_set, wS_unp, wS_sidx, wS_smt, wS_ex, wS_ret, wS_ite, wS_pass, wE_cst, wE_glb, wE_var, wE_sv, wE_mv, wE_rf, wE_frz, wE_op, wEs_nil, wEs_cons, wE_and, wE_or, wE_ite, wE_call, wE_bm, wE_pop, wK_none, wK_some, wR_seq, wR_rng1, wR_rng2, wR_zip, oS_some, bS_bl, iS_int, Mini.get, Mini.put, Mini.clear, Mini.back, Mini.scal, sem_neg, sem_not, sem_isN, sem_notN, sem_addI, sem_sub, sem_lt, sem_le, sem_gt, sem_ge, sem_eq, sem_ne, sem_in, sem_ni, sem_ixL, sem_ixT, sem_ixS, sem_lenL, sem_lenT, sem_lenS, sem_abs, sem_max2, sem_min2, sem_tupL, sem_tupT, sem_listL, sem_listT, sem_sorted, sem_all, sem_intB, sem_intI, sem_isL, sem_mkL0, sem_mkL1, sem_mkL2, sem_mkL3, sem_mkT0, sem_mkT1, sem_mkT2, sem_mkT3, Mini.isLst, Mini.fill, Mini.refs, Mini.ref1, Mini.backR, Option.map_some, Mini.unpD, Mini.bindL, Mini.bindT, Mini.itemsD, Mini.recM, Mini.isNon, Mini.wOut, Mini.outsOf, Mini.own, List.take, true_and, and_true, if_true, Bool.false_eq_true, if_false, at3_0, at3_1, at3_2, at2_0, at2_1, ix3_0, ix3_1, ix3_2, List.length_cons, List.length_nil, List.set_cons_zero, List.set_cons_succ, Nat.zero_add, Nat.reduceAdd, sem_fdivS, sem_mulS, sem_mod]
      split <;> first | trivial | exact ⟨trivial, trivial⟩
    · simp (maxSteps := 2000000) (disch := first | assumption | omega) only [wSs_nil, wS_set, wS_unp, wS_sidx, wS_smt, wS_ex, wS_ret, wS_ite, wS_pass, wE_cst, wE_glb, wE_var, wE_sv, wE_mv, wE_rf, wE_frz, wE_op, wEs_nil, wEs_cons, wE_and, wE_or, wE_ite, wE_call, wE_bm, wE_pop, wK_none, wK_some, wR_seq, wR_rng1, wR_rng2, wR_zip, oS_some, bS_bl, iS_int, Mini.get, Mini.put, Mini.clear, Mini.back, Mini.scal, sem_neg, sem_not, sem_isN, sem_notN, sem_addI, sem_sub, sem_lt, sem_le, sem_gt, sem_ge, sem_eq, sem_ne, sem_in, sem_ni, sem_ixL, sem_ixT, sem_ixS, sem_lenL, sem_lenT, sem_lenS, sem_abs, sem_max2, sem_min2, sem_tupL, sem_tupT, sem_listL, sem_listT, sem_sorted, sem_all, sem_intB, sem_intI, sem_isL, sem_mkL0, sem_mkL1, sem_mkL2, sem_mkL3, sem_mkT0, sem_mkT1, sem_mkT2, sem_mkT3, Mini.isLst, Mini.fill, Mini.refs, Mini.ref1, Mini.backR, Option.map_some, Mini.unpD, Mini.bindL, Mini.bindT, Mini.itemsD, Mini.recM, Mini.isNon, Mini.wOut, Mini.outsOf, Mini.own, List.take, true_and, and_true, if_true, Bool.false_eq_true, if_false, at3_0, at3_1, at3_2, at2_0, at2_1, ix3_0, ix3_1, ix3_2, List.length_cons, List.length_nil, List.set_cons_zero, List.set_cons_succ, Nat.zero_add, Nat.reduceAdd, sem_fdivS, sem_mulS, sem_mod]
      rw [eqD_nil (n := 1) all_prs (by omega)]
      have hcat : sem .cat [.lst (ps.map prD), .lst (mo.map prD)] = some (.lst ((ps ++ mo).map prD)) := by
        rw [sem_cat (by rw [List.length_map, List.length_map, limE]; omega), List.map_append]
      simp (maxSteps := 2000000) (disch := first | assumption | omega) only [hcat, wSs_nil, wS_set, wS_unp, wS_sidx, wS_smt, wS_ex, wS_ret, wS_ite, wS_pass, wE_cst, wE_glb, wE_var, wE_sv, wE_mv, wE_rf, wE_frz, wE_op, wEs_nil, wEs_cons, wE_and, wE_or, wE_ite, wE_call, wE_bm, wE_pop, wK_none, wK_some, wR_seq, wR_rng1, wR_rng2, wR_zip, oS_some, bS_bl, iS_int, Mini.get, Mini.put, Mini.clear, Mini.back, Mini.scal, sem_neg, sem_not, sem_isN, sem_notN, sem_addI, sem_sub, sem_lt, sem_le, sem_gt, sem_ge, sem_eq, sem_ne, sem_in, sem_ni, sem_ixL, sem_ixT, sem_ixS, sem_lenL, sem_lenT, sem_lenS, sem_abs, sem_max2, sem_min2, sem_tupL, sem_tupT, sem_listL, sem_listT, sem_sorted, sem_all, sem_intB, sem_intI, sem_isL, sem_mkL0, sem_mkL1, sem_mkL2, sem_mkL3, sem_mkT0, sem_mkT1, sem_mkT2, sem_mkT3, Mini.isLst, Mini.fill, Mini.refs, Mini.ref1, Mini.backR, Option.map_some, Mini.unpD, Mini.bindL, Mini.bindT, Mini.itemsD, Mini.recM, Mini.isNon, Mini.wOut, Mini.outsOf, Mini.own, List.take, true_and, and_true, if_true, Bool.false_eq_true, if_false, at3_0, at3_1, at3_2, at2_0, at2_1, ix3_0, ix3_1, ix3_2, List.length_cons, List.length_nil, List.set_cons_zero, List.set_cons_succ, Nat.zero_add, Nat.reduceAdd, sem_fdivS, sem_mulS, sem_mod]
      repeat' split
      all_goals first
        | exact ⟨a, b, c, ps, _, _, rfl, by omega, hB⟩
        | (rw [wSs_nil]; exact ⟨a, b, c, ps, _, _, rfl, by omega, hB⟩)
        | ((rw [wSs_cons]; simp (maxSteps := 2000000) (disch := first | assumption | omega) only [hcat, wSs_nil, wS_set, wS_unp, wS_sidx, wS_smt, wS_ex, wS_ret, wS_ite, wS_pass, wE_cst, wE_glb, wE_var, wE_sv, wE_mv, wE_rf, wE_frz, wE_op, wEs_nil, wEs_cons, wE_and, wE_or, wE_ite, wE_call, wE_bm, wE_pop, wK_none, wK_some, wR_seq, wR_rng1, wR_rng2, wR_zip, oS_some, bS_bl, iS_int, Mini.get, Mini.put, Mini.clear, Mini.back, Mini.scal, sem_neg, sem_not, sem_isN, sem_notN, sem_addI, sem_sub, sem_lt, sem_le, sem_gt, sem_ge, sem_eq, sem_ne, sem_in, sem_ni, sem_ixL, sem_ixT, sem_ixS, sem_lenL, sem_lenT, sem_lenS, sem_abs, sem_max2, sem_min2, sem_tupL, sem_tupT, sem_listL, sem_listT, sem_sorted, sem_all, sem_intB, sem_intI, sem_isL, sem_mkL0, sem_mkL1, sem_mkL2, sem_mkL3, sem_mkT0, sem_mkT1, sem_mkT2, sem_mkT3, Mini.isLst, Mini.fill, Mini.refs, Mini.ref1, Mini.backR, Option.map_some, Mini.unpD, Mini.bindL, Mini.bindT, Mini.itemsD, Mini.recM, Mini.isNon, Mini.wOut, Mini.outsOf, Mini.own, List.take, true_and, and_true, if_true, Bool.false_eq_true, if_false, at3_0, at3_1, at3_2, at2_0, at2_1, ix3_0, ix3_1, ix3_2, List.length_cons, List.length_nil, List.set_cons_zero, List.set_cons_succ, Nat.zero_add, Nat.reduceAdd, sem_fdivS, sem_mulS, sem_mod]); exact ⟨a, b, c, ps ++ mo, _, _, rfl, by rw [List.length_append]; omega, hB.add hBm fun p hp z => by
            have q := ‹(List.map prD (List.filter (fun p => decide (p ∈ ps)) mo)).isEmpty = true›
            have : p ∈ List.filter (fun p => decide (p ∈ ps)) mo := List.mem_filter.mpr ⟨hp, decide_eq_true z⟩
            rw [List.isEmpty_iff, List.map_eq_nil_iff] at q
            rw [q] at this
            cases this⟩)
  · rintro s ⟨a, b, c, ps, x3, x4, rfl, e1, hB⟩
    (rw [wSs_cons]; simp (maxSteps := 2000000) (disch := first | assumption | omega) only [sortD_prs, wSs_nil, wS_set, wS_unp, wS_sidx, wS_smt, wS_ex, wS_ret, wS_ite, wS_pass, wE_cst, wE_glb, wE_var, wE_sv, wE_mv, wE_rf, wE_frz, wE_op, wEs_nil, wEs_cons, wE_and, wE_or, wE_ite, wE_call, wE_bm, wE_pop, wK_none, wK_some, wR_seq, wR_rng1, wR_rng2, wR_zip, oS_some, bS_bl, iS_int, Mini.get, Mini.put, Mini.clear, Mini.back, Mini.scal, sem_neg, sem_not, sem_isN, sem_notN, sem_addI, sem_sub, sem_lt, sem_le, sem_gt, sem_ge, sem_eq, sem_ne, sem_in, sem_ni, sem_ixL, sem_ixT, sem_ixS, sem_lenL, sem_lenT, sem_lenS, sem_abs, sem_max2, sem_min2, sem_tupL, sem_tupT, sem_listL, sem_listT, sem_sorted, sem_all, sem_intB, sem_intI, sem_isL, sem_mkL0, sem_mkL1, sem_mkL2, sem_mkL3, sem_mkT0, sem_mkT1, sem_mkT2, sem_mkT3, Mini.isLst, Mini.fill, Mini.refs, Mini.ref1, Mini.backR, Option.map_some, Mini.unpD, Mini.bindL, Mini.bindT, Mini.itemsD, Mini.recM, Mini.isNon, Mini.wOut, Mini.outsOf, Mini.own, List.take, true_and, and_true, if_true, Bool.false_eq_true, if_false, at3_0, at3_1, at3_2, at2_0, at2_1, ix3_0, ix3_1, ix3_2, List.length_cons, List.length_nil, List.set_cons_zero, List.set_cons_succ, Nat.zero_add, Nat.reduceAdd, sem_fdivS, sem_mulS, sem_mod])
    exact ⟨_, a, b, c, rfl, by rw [isort_len]; omega, hB.perm (isort_prm _ _), rfl⟩
end Lk51

namespace Lk51
open Mini
def dropS : Ss → Nat → Ss
  | as, 0 => as
  | .nil, _ + 1 => .nil
  | .cons _ as, n + 1 => dropS as n
def NI (s : Sl) : Prop := ∃ (a b c w many : Int) (ps : List (Int × Int)) (x4 x5 x6 : Option D), s = [some (pot a b c), some (.int w), some (.int many), some (.lst (ps.map prD)), x4, x5, x6] ∧ 1 ≤ many ∧ many ≤ 32 ∧ ps.length ≤ 5000 ∧ Hlf many ps
def NJ (s : Sl) : Prop := ∃ (a b c w many : Int) (ps : List (Int × Int)) (x4 x5 x6 : Option D), s = [some (pot a b c), some (.int w), some (.int many), some (.lst (ps.map prD)), x4, x5, x6] ∧ 2 ≤ many ∧ many ≤ 32 ∧ ps.length ≤ 5000 ∧ Hlf many ps
def netQ : D → Sl → Prop := fun d os => ∃ (many : Int) (ps : List (Int × Int)) (a b c : Int), d = .tup [.int many, .lst (ps.map prD)] ∧ 1 ≤ many ∧ many ≤ 32 ∧ ps.length ≤ 20000 ∧ Bal many ps ∧ os = [some (pot a b c)]
abbrev nKn : Sl → Prop := fun s => wOut f10 .non s netQ
abbrev nKr : D → Sl → Prop := fun d s => wOut f10 d s netQ
theorem two_in (w : Int) : ∃ c, inD (.int w) (.tup [.int 4, .int 5]) = some c := by
  have h : (inD (.int w) (.tup [.int 4, .int 5])).isSome = true := by
    unfold inD
    simp [D.py, pyL, scal]
  exact Option.isSome_iff_exists.mp h
theorem both_ways {many : Int} {ps : List (Int × Int)} {f : Int × Int → D} (hf : ∀ p, f p = prD (p.2, p.1)) (h : ps.length ≤ 5000) (hH : Hlf many ps) : ∃ qs : List (Int × Int), (sem .cat [.lst (ps.map prD), .lst (ps.map f)] = some (.lst (qs.map prD))) ∧ qs.length ≤ 10000 ∧ Bal many qs := by
  refine ⟨ps ++ ps.map fun p => (p.2, p.1), ?_, by rw [List.length_append, List.length_map]; omega, hH.both⟩
  rw [sem_cat (by rw [List.length_map, List.length_map, limE]; omega), List.map_append, List.map_map]
  congr 3
  exact List.map_congr_left fun p _ => hf p
theorem net8 (n : Nat) (s : Sl) (h : NI s) : wSs (callF fds (n + 3)) (dropS f10.body 8) s nKn nKr := by
  obtain ⟨a, b, c, w, many, ps, x4, x5, x6, rfl, h1, h2, h3, hH⟩ := h
  simp only [f10, dropS]
  rw [wSs_cons]
  simp (maxSteps := 2000000) (disch := first | assumption | omega) only [wSs_nil, wS_set, wS_unp, wS_sidx, wS_smt, wS_ex, wS_ret, wS_ite, wS_pass, wE_cst, wE_glb, wE_var, wE_sv, wE_mv, wE_rf, wE_frz, wE_op, wEs_nil, wEs_cons, wE_and, wE_or, wE_ite, wE_call, wE_bm, wE_pop, wK_none, wK_some, wR_seq, wR_rng1, wR_rng2, wR_zip, oS_some, bS_bl, iS_int, Mini.get, Mini.put, Mini.clear, Mini.back, Mini.scal, sem_neg, sem_not, sem_isN, sem_notN, sem_addI, sem_sub, sem_lt, sem_le, sem_gt, sem_ge, sem_eq, sem_ne, sem_in, sem_ni, sem_ixL, sem_ixT, sem_ixS, sem_lenL, sem_lenT, sem_lenS, sem_abs, sem_max2, sem_min2, sem_tupL, sem_tupT, sem_listL, sem_listT, sem_sorted, sem_all, sem_intB, sem_intI, sem_isL, sem_mkL0, sem_mkL1, sem_mkL2, sem_mkL3, sem_mkT0, sem_mkT1, sem_mkT2, sem_mkT3, Mini.isLst, Mini.fill, Mini.refs, Mini.ref1, Mini.backR, Option.map_some, Mini.unpD, Mini.bindL, Mini.bindT, Mini.itemsD, Mini.recM, Mini.isNon, Mini.wOut, Mini.outsOf, Mini.own, List.take, true_and, and_true, if_true, Bool.false_eq_true, if_false, at3_0, at3_1, at3_2, at2_0, at2_1, ix3_0, ix3_1, ix3_2, List.length_cons, List.length_nil, List.set_cons_zero, List.set_cons_succ, Nat.zero_add, Nat.reduceAdd, sem_fdivS, sem_mulS, sem_mod]
  refine wE_comp ?_
  simp (maxSteps := 2000000) (disch := first | assumption | omega) only [wSs_nil, wS_set, wS_unp, wS_sidx, wS_smt, wS_ex, wS_ret, wS_ite, wS_pass, wE_cst, wE_glb, wE_var, wE_sv, wE_mv, wE_rf, wE_frz, wE_op, wEs_nil, wEs_cons, wE_and, wE_or, wE_ite, wE_call, wE_bm, wE_pop, wK_none, wK_some, wR_seq, wR_rng1, wR_rng2, wR_zip, oS_some, bS_bl, iS_int, Mini.get, Mini.put, Mini.clear, Mini.back, Mini.scal, sem_neg, sem_not, sem_isN, sem_notN, sem_addI, sem_sub, sem_lt, sem_le, sem_gt, sem_ge, sem_eq, sem_ne, sem_in, sem_ni, sem_ixL, sem_ixT, sem_ixS, sem_lenL, sem_lenT, sem_lenS, sem_abs, sem_max2, sem_min2, sem_tupL, sem_tupT, sem_listL, sem_listT, sem_sorted, sem_all, sem_intB, sem_intI, sem_isL, sem_mkL0, sem_mkL1, sem_mkL2, sem_mkL3, sem_mkT0, sem_mkT1, sem_mkT2, sem_mkT3, Mini.isLst, Mini.fill, Mini.refs, Mini.ref1, Mini.backR, Option.map_some, Mini.unpD, Mini.bindL, Mini.bindT, Mini.itemsD, Mini.recM, Mini.isNon, Mini.wOut, Mini.outsOf, Mini.own, List.take, true_and, and_true, if_true, Bool.false_eq_true, if_false, at3_0, at3_1, at3_2, at2_0, at2_1, ix3_0, ix3_1, ix3_2, List.length_cons, List.length_nil, List.set_cons_zero, List.set_cons_succ, Nat.zero_add, Nat.reduceAdd, sem_fdivS, sem_mulS, sem_mod]
  refine comp_map ps prD (fun p => prD (p.2, p.1)) (by rw [limE]; omega) (fun p hp => ?_) ?_
  · simp (maxSteps := 2000000) (disch := first | assumption | omega) only [prD, wSs_nil, wS_set, wS_unp, wS_sidx, wS_smt, wS_ex, wS_ret, wS_ite, wS_pass, wE_cst, wE_glb, wE_var, wE_sv, wE_mv, wE_rf, wE_frz, wE_op, wEs_nil, wEs_cons, wE_and, wE_or, wE_ite, wE_call, wE_bm, wE_pop, wK_none, wK_some, wR_seq, wR_rng1, wR_rng2, wR_zip, oS_some, bS_bl, iS_int, Mini.get, Mini.put, Mini.clear, Mini.back, Mini.scal, sem_neg, sem_not, sem_isN, sem_notN, sem_addI, sem_sub, sem_lt, sem_le, sem_gt, sem_ge, sem_eq, sem_ne, sem_in, sem_ni, sem_ixL, sem_ixT, sem_ixS, sem_lenL, sem_lenT, sem_lenS, sem_abs, sem_max2, sem_min2, sem_tupL, sem_tupT, sem_listL, sem_listT, sem_sorted, sem_all, sem_intB, sem_intI, sem_isL, sem_mkL0, sem_mkL1, sem_mkL2, sem_mkL3, sem_mkT0, sem_mkT1, sem_mkT2, sem_mkT3, Mini.isLst, Mini.fill, Mini.refs, Mini.ref1, Mini.backR, Option.map_some, Mini.unpD, Mini.bindL, Mini.bindT, Mini.itemsD, Mini.recM, Mini.isNon, Mini.wOut, Mini.outsOf, Mini.own, List.take, true_and, and_true, if_true, Bool.false_eq_true, if_false, at3_0, at3_1, at3_2, at2_0, at2_1, ix3_0, ix3_1, ix3_2, List.length_cons, List.length_nil, List.set_cons_zero, List.set_cons_succ, Nat.zero_add, Nat.reduceAdd, sem_fdivS, sem_mulS, sem_mod]
  · obtain ⟨qs, hq, hl, hB⟩ := both_ways (ps := ps) (f := fun p => prD (p.2, p.1)) (fun _ => rfl) h3 hH
    simp (maxSteps := 2000000) (disch := first | assumption | omega) only [hq, sortD_prs, wSs_nil, wS_set, wS_unp, wS_sidx, wS_smt, wS_ex, wS_ret, wS_ite, wS_pass, wE_cst, wE_glb, wE_var, wE_sv, wE_mv, wE_rf, wE_frz, wE_op, wEs_nil, wEs_cons, wE_and, wE_or, wE_ite, wE_call, wE_bm, wE_pop, wK_none, wK_some, wR_seq, wR_rng1, wR_rng2, wR_zip, oS_some, bS_bl, iS_int, Mini.get, Mini.put, Mini.clear, Mini.back, Mini.scal, sem_neg, sem_not, sem_isN, sem_notN, sem_addI, sem_sub, sem_lt, sem_le, sem_gt, sem_ge, sem_eq, sem_ne, sem_in, sem_ni, sem_ixL, sem_ixT, sem_ixS, sem_lenL, sem_lenT, sem_lenS, sem_abs, sem_max2, sem_min2, sem_tupL, sem_tupT, sem_listL, sem_listT, sem_sorted, sem_all, sem_intB, sem_intI, sem_isL, sem_mkL0, sem_mkL1, sem_mkL2, sem_mkL3, sem_mkT0, sem_mkT1, sem_mkT2, sem_mkT3, Mini.isLst, Mini.fill, Mini.refs, Mini.ref1, Mini.backR, Option.map_some, Mini.unpD, Mini.bindL, Mini.bindT, Mini.itemsD, Mini.recM, Mini.isNon, Mini.wOut, Mini.outsOf, Mini.own, List.take, true_and, and_true, if_true, Bool.false_eq_true, if_false, at3_0, at3_1, at3_2, at2_0, at2_1, ix3_0, ix3_1, ix3_2, List.length_cons, List.length_nil, List.set_cons_zero, List.set_cons_succ, Nat.zero_add, Nat.reduceAdd, sem_fdivS, sem_mulS, sem_mod]
    exact ⟨many, _, a, b, c, rfl, h1, h2, by rw [isort_len]; omega, hB.perm (isort_prm _ _), rfl⟩
theorem net7 (n : Nat) (s : Sl) (h : NI s) : wSs (callF fds (n + 3)) (dropS f10.body 7) s nKn nKr := by
  obtain ⟨a, b, c, w, many, ps, x4, x5, x6, rfl, h1, h2, h3, hH⟩ := h
  obtain ⟨c1, hc1⟩ := two_in w
  simp only [f10, dropS]
  (rw [wSs_cons]; simp (maxSteps := 2000000) (disch := first | assumption | omega) only [hc1, wSs_nil, wS_set, wS_unp, wS_sidx, wS_smt, wS_ex, wS_ret, wS_ite, wS_pass, wE_cst, wE_glb, wE_var, wE_sv, wE_mv, wE_rf, wE_frz, wE_op, wEs_nil, wEs_cons, wE_and, wE_or, wE_ite, wE_call, wE_bm, wE_pop, wK_none, wK_some, wR_seq, wR_rng1, wR_rng2, wR_zip, oS_some, bS_bl, iS_int, Mini.get, Mini.put, Mini.clear, Mini.back, Mini.scal, sem_neg, sem_not, sem_isN, sem_notN, sem_addI, sem_sub, sem_lt, sem_le, sem_gt, sem_ge, sem_eq, sem_ne, sem_in, sem_ni, sem_ixL, sem_ixT, sem_ixS, sem_lenL, sem_lenT, sem_lenS, sem_abs, sem_max2, sem_min2, sem_tupL, sem_tupT, sem_listL, sem_listT, sem_sorted, sem_all, sem_intB, sem_intI, sem_isL, sem_mkL0, sem_mkL1, sem_mkL2, sem_mkL3, sem_mkT0, sem_mkT1, sem_mkT2, sem_mkT3, Mini.isLst, Mini.fill, Mini.refs, Mini.ref1, Mini.backR, Option.map_some, Mini.unpD, Mini.bindL, Mini.bindT, Mini.itemsD, Mini.recM, Mini.isNon, Mini.wOut, Mini.outsOf, Mini.own, List.take, true_and, and_true, if_true, Bool.false_eq_true, if_false, at3_0, at3_1, at3_2, at2_0, at2_1, ix3_0, ix3_1, ix3_2, List.length_cons, List.length_nil, List.set_cons_zero, List.set_cons_succ, Nat.zero_add, Nat.reduceAdd, sem_fdivS, sem_mulS, sem_mod])
  split
  · (rw [wSs_cons]; simp (maxSteps := 2000000) (disch := first | assumption | omega) only [wSs_nil, wS_set, wS_unp, wS_sidx, wS_smt, wS_ex, wS_ret, wS_ite, wS_pass, wE_cst, wE_glb, wE_var, wE_sv, wE_mv, wE_rf, wE_frz, wE_op, wEs_nil, wEs_cons, wE_and, wE_or, wE_ite, wE_call, wE_bm, wE_pop, wK_none, wK_some, wR_seq, wR_rng1, wR_rng2, wR_zip, oS_some, bS_bl, iS_int, Mini.get, Mini.put, Mini.clear, Mini.back, Mini.scal, sem_neg, sem_not, sem_isN, sem_notN, sem_addI, sem_sub, sem_lt, sem_le, sem_gt, sem_ge, sem_eq, sem_ne, sem_in, sem_ni, sem_ixL, sem_ixT, sem_ixS, sem_lenL, sem_lenT, sem_lenS, sem_abs, sem_max2, sem_min2, sem_tupL, sem_tupT, sem_listL, sem_listT, sem_sorted, sem_all, sem_intB, sem_intI, sem_isL, sem_mkL0, sem_mkL1, sem_mkL2, sem_mkL3, sem_mkT0, sem_mkT1, sem_mkT2, sem_mkT3, Mini.isLst, Mini.fill, Mini.refs, Mini.ref1, Mini.backR, Option.map_some, Mini.unpD, Mini.bindL, Mini.bindT, Mini.itemsD, Mini.recM, Mini.isNon, Mini.wOut, Mini.outsOf, Mini.own, List.take, true_and, and_true, if_true, Bool.false_eq_true, if_false, at3_0, at3_1, at3_2, at2_0, at2_1, ix3_0, ix3_1, ix3_2, List.length_cons, List.length_nil, List.set_cons_zero, List.set_cons_succ, Nat.zero_add, Nat.reduceAdd, sem_fdivS, sem_mulS, sem_mod])
    refine wC_mono (sides_ok (n + 1) a b c) ?_
    rintro d os ⟨l, a, b, c, rfl, g1, g2, g3, g4, rfl⟩
    simp (maxSteps := 2000000) (disch := first | assumption | omega) only [wSs_nil, wS_set, wS_unp, wS_sidx, wS_smt, wS_ex, wS_ret, wS_ite, wS_pass, wE_cst, wE_glb, wE_var, wE_sv, wE_mv, wE_rf, wE_frz, wE_op, wEs_nil, wEs_cons, wE_and, wE_or, wE_ite, wE_call, wE_bm, wE_pop, wK_none, wK_some, wR_seq, wR_rng1, wR_rng2, wR_zip, oS_some, bS_bl, iS_int, Mini.get, Mini.put, Mini.clear, Mini.back, Mini.scal, sem_neg, sem_not, sem_isN, sem_notN, sem_addI, sem_sub, sem_lt, sem_le, sem_gt, sem_ge, sem_eq, sem_ne, sem_in, sem_ni, sem_ixL, sem_ixT, sem_ixS, sem_lenL, sem_lenT, sem_lenS, sem_abs, sem_max2, sem_min2, sem_tupL, sem_tupT, sem_listL, sem_listT, sem_sorted, sem_all, sem_intB, sem_intI, sem_isL, sem_mkL0, sem_mkL1, sem_mkL2, sem_mkL3, sem_mkT0, sem_mkT1, sem_mkT2, sem_mkT3, Mini.isLst, Mini.fill, Mini.refs, Mini.ref1, Mini.backR, Option.map_some, Mini.unpD, Mini.bindL, Mini.bindT, Mini.itemsD, Mini.recM, Mini.isNon, Mini.wOut, Mini.outsOf, Mini.own, List.take, true_and, and_true, if_true, Bool.false_eq_true, if_false, at3_0, at3_1, at3_2, at2_0, at2_1, ix3_0, ix3_1, ix3_2, List.length_cons, List.length_nil, List.set_cons_zero, List.set_cons_succ, Nat.zero_add, Nat.reduceAdd, sem_fdivS, sem_mulS, sem_mod]
    refine wC_mono (box_ok (n + 2) l g1 g2 g4) ?_
    rintro d os ⟨qs, rfl, hq, hHq, rfl⟩
    simp (maxSteps := 2000000) (disch := first | assumption | omega) only [wSs_nil, wS_set, wS_unp, wS_sidx, wS_smt, wS_ex, wS_ret, wS_ite, wS_pass, wE_cst, wE_glb, wE_var, wE_sv, wE_mv, wE_rf, wE_frz, wE_op, wEs_nil, wEs_cons, wE_and, wE_or, wE_ite, wE_call, wE_bm, wE_pop, wK_none, wK_some, wR_seq, wR_rng1, wR_rng2, wR_zip, oS_some, bS_bl, iS_int, Mini.get, Mini.put, Mini.clear, Mini.back, Mini.scal, sem_neg, sem_not, sem_isN, sem_notN, sem_addI, sem_sub, sem_lt, sem_le, sem_gt, sem_ge, sem_eq, sem_ne, sem_in, sem_ni, sem_ixL, sem_ixT, sem_ixS, sem_lenL, sem_lenT, sem_lenS, sem_abs, sem_max2, sem_min2, sem_tupL, sem_tupT, sem_listL, sem_listT, sem_sorted, sem_all, sem_intB, sem_intI, sem_isL, sem_mkL0, sem_mkL1, sem_mkL2, sem_mkL3, sem_mkT0, sem_mkT1, sem_mkT2, sem_mkT3, Mini.isLst, Mini.fill, Mini.refs, Mini.ref1, Mini.backR, Option.map_some, Mini.unpD, Mini.bindL, Mini.bindT, Mini.itemsD, Mini.recM, Mini.isNon, Mini.wOut, Mini.outsOf, Mini.own, List.take, true_and, and_true, if_true, Bool.false_eq_true, if_false, at3_0, at3_1, at3_2, at2_0, at2_1, ix3_0, ix3_1, ix3_2, List.length_cons, List.length_nil, List.set_cons_zero, List.set_cons_succ, Nat.zero_add, Nat.reduceAdd, sem_fdivS, sem_mulS, sem_mod]
    exact net8 n _ ⟨a, b, c, w, l.prod, qs, x4, x5, x6, rfl, g3, g2, by omega, hHq⟩
  · try simp (maxSteps := 2000000) (disch := first | assumption | omega) only [wSs_nil, wS_set, wS_unp, wS_sidx, wS_smt, wS_ex, wS_ret, wS_ite, wS_pass, wE_cst, wE_glb, wE_var, wE_sv, wE_mv, wE_rf, wE_frz, wE_op, wEs_nil, wEs_cons, wE_and, wE_or, wE_ite, wE_call, wE_bm, wE_pop, wK_none, wK_some, wR_seq, wR_rng1, wR_rng2, wR_zip, oS_some, bS_bl, iS_int, Mini.get, Mini.put, Mini.clear, Mini.back, Mini.scal, sem_neg, sem_not, sem_isN, sem_notN, sem_addI, sem_sub, sem_lt, sem_le, sem_gt, sem_ge, sem_eq, sem_ne, sem_in, sem_ni, sem_ixL, sem_ixT, sem_ixS, sem_lenL, sem_lenT, sem_lenS, sem_abs, sem_max2, sem_min2, sem_tupL, sem_tupT, sem_listL, sem_listT, sem_sorted, sem_all, sem_intB, sem_intI, sem_isL, sem_mkL0, sem_mkL1, sem_mkL2, sem_mkL3, sem_mkT0, sem_mkT1, sem_mkT2, sem_mkT3, Mini.isLst, Mini.fill, Mini.refs, Mini.ref1, Mini.backR, Option.map_some, Mini.unpD, Mini.bindL, Mini.bindT, Mini.itemsD, Mini.recM, Mini.isNon, Mini.wOut, Mini.outsOf, Mini.own, List.take, true_and, and_true, if_true, Bool.false_eq_true, if_false, at3_0, at3_1, at3_2, at2_0, at2_1, ix3_0, ix3_1, ix3_2, List.length_cons, List.length_nil, List.set_cons_zero, List.set_cons_succ, Nat.zero_add, Nat.reduceAdd, sem_fdivS, sem_mulS, sem_mod]
    exact net8 n _ ⟨a, b, c, w, many, ps, x4, x5, x6, rfl, h1, h2, h3, hH⟩
theorem net6 (n : Nat) (s : Sl) (h : NJ s) : wSs (callF fds (n + 3)) (dropS f10.body 6) s nKn nKr := by
  obtain ⟨a, b, c, w, many, ps, x4, x5, x6, rfl, h1, h2, h3, hH⟩ := h
  simp only [f10, dropS]
  (rw [wSs_cons]; simp (maxSteps := 2000000) (disch := first | assumption | omega) only [eqD_int, wSs_nil, wS_set, wS_unp, wS_sidx, wS_smt, wS_ex, wS_ret, wS_ite, wS_pass, wE_cst, wE_glb, wE_var, wE_sv, wE_mv, wE_rf, wE_frz, wE_op, wEs_nil, wEs_cons, wE_and, wE_or, wE_ite, wE_call, wE_bm, wE_pop, wK_none, wK_some, wR_seq, wR_rng1, wR_rng2, wR_zip, oS_some, bS_bl, iS_int, Mini.get, Mini.put, Mini.clear, Mini.back, Mini.scal, sem_neg, sem_not, sem_isN, sem_notN, sem_addI, sem_sub, sem_lt, sem_le, sem_gt, sem_ge, sem_eq, sem_ne, sem_in, sem_ni, sem_ixL, sem_ixT, sem_ixS, sem_lenL, sem_lenT, sem_lenS, sem_abs, sem_max2, sem_min2, sem_tupL, sem_tupT, sem_listL, sem_listT, sem_sorted, sem_all, sem_intB, sem_intI, sem_isL, sem_mkL0, sem_mkL1, sem_mkL2, sem_mkL3, sem_mkT0, sem_mkT1, sem_mkT2, sem_mkT3, Mini.isLst, Mini.fill, Mini.refs, Mini.ref1, Mini.backR, Option.map_some, Mini.unpD, Mini.bindL, Mini.bindT, Mini.itemsD, Mini.recM, Mini.isNon, Mini.wOut, Mini.outsOf, Mini.own, List.take, true_and, and_true, if_true, Bool.false_eq_true, if_false, at3_0, at3_1, at3_2, at2_0, at2_1, ix3_0, ix3_1, ix3_2, List.length_cons, List.length_nil, List.set_cons_zero, List.set_cons_succ, Nat.zero_add, Nat.reduceAdd, sem_fdivS, sem_mulS, sem_mod])
  split
  · (rw [wSs_cons]; simp (maxSteps := 2000000) (disch := first | assumption | omega) only [wSs_nil, wS_set, wS_unp, wS_sidx, wS_smt, wS_ex, wS_ret, wS_ite, wS_pass, wE_cst, wE_glb, wE_var, wE_sv, wE_mv, wE_rf, wE_frz, wE_op, wEs_nil, wEs_cons, wE_and, wE_or, wE_ite, wE_call, wE_bm, wE_pop, wK_none, wK_some, wR_seq, wR_rng1, wR_rng2, wR_zip, oS_some, bS_bl, iS_int, Mini.get, Mini.put, Mini.clear, Mini.back, Mini.scal, sem_neg, sem_not, sem_isN, sem_notN, sem_addI, sem_sub, sem_lt, sem_le, sem_gt, sem_ge, sem_eq, sem_ne, sem_in, sem_ni, sem_ixL, sem_ixT, sem_ixS, sem_lenL, sem_lenT, sem_lenS, sem_abs, sem_max2, sem_min2, sem_tupL, sem_tupT, sem_listL, sem_listT, sem_sorted, sem_all, sem_intB, sem_intI, sem_isL, sem_mkL0, sem_mkL1, sem_mkL2, sem_mkL3, sem_mkT0, sem_mkT1, sem_mkT2, sem_mkT3, Mini.isLst, Mini.fill, Mini.refs, Mini.ref1, Mini.backR, Option.map_some, Mini.unpD, Mini.bindL, Mini.bindT, Mini.itemsD, Mini.recM, Mini.isNon, Mini.wOut, Mini.outsOf, Mini.own, List.take, true_and, and_true, if_true, Bool.false_eq_true, if_false, at3_0, at3_1, at3_2, at2_0, at2_1, ix3_0, ix3_1, ix3_2, List.length_cons, List.length_nil, List.set_cons_zero, List.set_cons_succ, Nat.zero_add, Nat.reduceAdd, sem_fdivS, sem_mulS, sem_mod])
    (rw [wSs_cons]; simp (maxSteps := 2000000) (disch := first | assumption | omega) only [wSs_nil, wS_set, wS_unp, wS_sidx, wS_smt, wS_ex, wS_ret, wS_ite, wS_pass, wE_cst, wE_glb, wE_var, wE_sv, wE_mv, wE_rf, wE_frz, wE_op, wEs_nil, wEs_cons, wE_and, wE_or, wE_ite, wE_call, wE_bm, wE_pop, wK_none, wK_some, wR_seq, wR_rng1, wR_rng2, wR_zip, oS_some, bS_bl, iS_int, Mini.get, Mini.put, Mini.clear, Mini.back, Mini.scal, sem_neg, sem_not, sem_isN, sem_notN, sem_addI, sem_sub, sem_lt, sem_le, sem_gt, sem_ge, sem_eq, sem_ne, sem_in, sem_ni, sem_ixL, sem_ixT, sem_ixS, sem_lenL, sem_lenT, sem_lenS, sem_abs, sem_max2, sem_min2, sem_tupL, sem_tupT, sem_listL, sem_listT, sem_sorted, sem_all, sem_intB, sem_intI, sem_isL, sem_mkL0, sem_mkL1, sem_mkL2, sem_mkL3, sem_mkT0, sem_mkT1, sem_mkT2, sem_mkT3, Mini.isLst, Mini.fill, Mini.refs, Mini.ref1, Mini.backR, Option.map_some, Mini.unpD, Mini.bindL, Mini.bindT, Mini.itemsD, Mini.recM, Mini.isNon, Mini.wOut, Mini.outsOf, Mini.own, List.take, true_and, and_true, if_true, Bool.false_eq_true, if_false, at3_0, at3_1, at3_2, at2_0, at2_1, ix3_0, ix3_1, ix3_2, List.length_cons, List.length_nil, List.set_cons_zero, List.set_cons_succ, Nat.zero_add, Nat.reduceAdd, sem_fdivS, sem_mulS, sem_mod])
    rw [wSs_cons]
    refine wS_for ?_
    simp (maxSteps := 2000000) (disch := first | assumption | omega) only [wSs_nil, wS_set, wS_unp, wS_sidx, wS_smt, wS_ex, wS_ret, wS_ite, wS_pass, wE_cst, wE_glb, wE_var, wE_sv, wE_mv, wE_rf, wE_frz, wE_op, wEs_nil, wEs_cons, wE_and, wE_or, wE_ite, wE_call, wE_bm, wE_pop, wK_none, wK_some, wR_seq, wR_rng1, wR_rng2, wR_zip, oS_some, bS_bl, iS_int, Mini.get, Mini.put, Mini.clear, Mini.back, Mini.scal, sem_neg, sem_not, sem_isN, sem_notN, sem_addI, sem_sub, sem_lt, sem_le, sem_gt, sem_ge, sem_eq, sem_ne, sem_in, sem_ni, sem_ixL, sem_ixT, sem_ixS, sem_lenL, sem_lenT, sem_lenS, sem_abs, sem_max2, sem_min2, sem_tupL, sem_tupT, sem_listL, sem_listT, sem_sorted, sem_all, sem_intB, sem_intI, sem_isL, sem_mkL0, sem_mkL1, sem_mkL2, sem_mkL3, sem_mkT0, sem_mkT1, sem_mkT2, sem_mkT3, Mini.isLst, Mini.fill, Mini.refs, Mini.ref1, Mini.backR, Option.map_some, Mini.unpD, Mini.bindL, Mini.bindT, Mini.itemsD, Mini.recM, Mini.isNon, Mini.wOut, Mini.outsOf, Mini.own, List.take, true_and, and_true, if_true, Bool.false_eq_true, if_false, at3_0, at3_1, at3_2, at2_0, at2_1, ix3_0, ix3_1, ix3_2, List.length_cons, List.length_nil, List.set_cons_zero, List.set_cons_succ, Nat.zero_add, Nat.reduceAdd, sem_fdivS, sem_mulS, sem_mod]
    refine ⟨by omega, ?_⟩
    have hm : 0 ≤ many % 8 ∧ many % 8 < 8 := by omega
    refine rng_loop (fun i s => ∃ (qs : List (Int × Int)) (x4 : Option D), s = [some (pot a b c), some (.int w), some (.int (2 + many % 8)), some (.lst (qs.map prD)), x4, x5, x6] ∧ qs.length ≤ 10 * i ∧ Hlf (0 + (i : Int)) qs) ⟨[], x4, rfl, by simp, .nil⟩ ?_ ?_
    · rintro i s hi ⟨qs, x4, rfl, e1, hHq⟩
      simp (maxSteps := 2000000) (disch := first | assumption | omega) only [wSs_nil, wS_set, wS_unp, wS_sidx, wS_smt, wS_ex, wS_ret, wS_ite, wS_pass, wE_cst, wE_glb, wE_var, wE_sv, wE_mv, wE_rf, wE_frz, wE_op, wEs_nil, wEs_cons, wE_and, wE_or, wE_ite, wE_call, wE_bm, wE_pop, wK_none, wK_some, wR_seq, wR_rng1, wR_rng2, wR_zip, oS_some, bS_bl, iS_int, Mini.get, Mini.put, Mini.clear, Mini.back, Mini.scal, sem_neg, sem_not, sem_isN, sem_notN, sem_addI, sem_sub, sem_lt, sem_le, sem_gt, sem_ge, sem_eq, sem_ne, sem_in, sem_ni, sem_ixL, sem_ixT, sem_ixS, sem_lenL, sem_lenT, sem_lenS, sem_abs, sem_max2, sem_min2, sem_tupL, sem_tupT, sem_listL, sem_listT, sem_sorted, sem_all, sem_intB, sem_intI, sem_isL, sem_mkL0, sem_mkL1, sem_mkL2, sem_mkL3, sem_mkT0, sem_mkT1, sem_mkT2, sem_mkT3, Mini.isLst, Mini.fill, Mini.refs, Mini.ref1, Mini.backR, Option.map_some, Mini.unpD, Mini.bindL, Mini.bindT, Mini.itemsD, Mini.recM, Mini.isNon, Mini.wOut, Mini.outsOf, Mini.own, List.take, true_and, and_true, if_true, Bool.false_eq_true, if_false, at3_0, at3_1, at3_2, at2_0, at2_1, ix3_0, ix3_1, ix3_2, List.length_cons, List.length_nil, List.set_cons_zero, List.set_cons_succ, Nat.zero_add, Nat.reduceAdd, sem_fdivS, sem_mulS, sem_mod]
      (rw [wSs_cons]; simp (maxSteps := 2000000) (disch := first | assumption | omega) only [wSs_nil, wS_set, wS_unp, wS_sidx, wS_smt, wS_ex, wS_ret, wS_ite, wS_pass, wE_cst, wE_glb, wE_var, wE_sv, wE_mv, wE_rf, wE_frz, wE_op, wEs_nil, wEs_cons, wE_and, wE_or, wE_ite, wE_call, wE_bm, wE_pop, wK_none, wK_some, wR_seq, wR_rng1, wR_rng2, wR_zip, oS_some, bS_bl, iS_int, Mini.get, Mini.put, Mini.clear, Mini.back, Mini.scal, sem_neg, sem_not, sem_isN, sem_notN, sem_addI, sem_sub, sem_lt, sem_le, sem_gt, sem_ge, sem_eq, sem_ne, sem_in, sem_ni, sem_ixL, sem_ixT, sem_ixS, sem_lenL, sem_lenT, sem_lenS, sem_abs, sem_max2, sem_min2, sem_tupL, sem_tupT, sem_listL, sem_listT, sem_sorted, sem_all, sem_intB, sem_intI, sem_isL, sem_mkL0, sem_mkL1, sem_mkL2, sem_mkL3, sem_mkT0, sem_mkT1, sem_mkT2, sem_mkT3, Mini.isLst, Mini.fill, Mini.refs, Mini.ref1, Mini.backR, Option.map_some, Mini.unpD, Mini.bindL, Mini.bindT, Mini.itemsD, Mini.recM, Mini.isNon, Mini.wOut, Mini.outsOf, Mini.own, List.take, true_and, and_true, if_true, Bool.false_eq_true, if_false, at3_0, at3_1, at3_2, at2_0, at2_1, ix3_0, ix3_1, ix3_2, List.length_cons, List.length_nil, List.set_cons_zero, List.set_cons_succ, Nat.zero_add, Nat.reduceAdd, sem_fdivS, sem_mulS, sem_mod])
      refine wE_comp ?_
      simp (maxSteps := 2000000) (disch := first | assumption | omega) only [wSs_nil, wS_set, wS_unp, wS_sidx, wS_smt, wS_ex, wS_ret, wS_ite, wS_pass, wE_cst, wE_glb, wE_var, wE_sv, wE_mv, wE_rf, wE_frz, wE_op, wEs_nil, wEs_cons, wE_and, wE_or, wE_ite, wE_call, wE_bm, wE_pop, wK_none, wK_some, wR_seq, wR_rng1, wR_rng2, wR_zip, oS_some, bS_bl, iS_int, Mini.get, Mini.put, Mini.clear, Mini.back, Mini.scal, sem_neg, sem_not, sem_isN, sem_notN, sem_addI, sem_sub, sem_lt, sem_le, sem_gt, sem_ge, sem_eq, sem_ne, sem_in, sem_ni, sem_ixL, sem_ixT, sem_ixS, sem_lenL, sem_lenT, sem_lenS, sem_abs, sem_max2, sem_min2, sem_tupL, sem_tupT, sem_listL, sem_listT, sem_sorted, sem_all, sem_intB, sem_intI, sem_isL, sem_mkL0, sem_mkL1, sem_mkL2, sem_mkL3, sem_mkT0, sem_mkT1, sem_mkT2, sem_mkT3, Mini.isLst, Mini.fill, Mini.refs, Mini.ref1, Mini.backR, Option.map_some, Mini.unpD, Mini.bindL, Mini.bindT, Mini.itemsD, Mini.recM, Mini.isNon, Mini.wOut, Mini.outsOf, Mini.own, List.take, true_and, and_true, if_true, Bool.false_eq_true, if_false, at3_0, at3_1, at3_2, at2_0, at2_1, ix3_0, ix3_1, ix3_2, List.length_cons, List.length_nil, List.set_cons_zero, List.set_cons_succ, Nat.zero_add, Nat.reduceAdd, sem_fdivS, sem_mulS, sem_mod]
      refine ⟨by omega, ?_⟩
      rw [rngD_rg]
      refine comp_map (rg 0 _) D.int (fun x => prD (x, 0 + (i : Int))) (by rw [limE, rg_len]; omega) (fun x hx => ?_) ?_
      · simp (maxSteps := 2000000) (disch := first | assumption | omega) only [prD, wSs_nil, wS_set, wS_unp, wS_sidx, wS_smt, wS_ex, wS_ret, wS_ite, wS_pass, wE_cst, wE_glb, wE_var, wE_sv, wE_mv, wE_rf, wE_frz, wE_op, wEs_nil, wEs_cons, wE_and, wE_or, wE_ite, wE_call, wE_bm, wE_pop, wK_none, wK_some, wR_seq, wR_rng1, wR_rng2, wR_zip, oS_some, bS_bl, iS_int, Mini.get, Mini.put, Mini.clear, Mini.back, Mini.scal, sem_neg, sem_not, sem_isN, sem_notN, sem_addI, sem_sub, sem_lt, sem_le, sem_gt, sem_ge, sem_eq, sem_ne, sem_in, sem_ni, sem_ixL, sem_ixT, sem_ixS, sem_lenL, sem_lenT, sem_lenS, sem_abs, sem_max2, sem_min2, sem_tupL, sem_tupT, sem_listL, sem_listT, sem_sorted, sem_all, sem_intB, sem_intI, sem_isL, sem_mkL0, sem_mkL1, sem_mkL2, sem_mkL3, sem_mkT0, sem_mkT1, sem_mkT2, sem_mkT3, Mini.isLst, Mini.fill, Mini.refs, Mini.ref1, Mini.backR, Option.map_some, Mini.unpD, Mini.bindL, Mini.bindT, Mini.itemsD, Mini.recM, Mini.isNon, Mini.wOut, Mini.outsOf, Mini.own, List.take, true_and, and_true, if_true, Bool.false_eq_true, if_false, at3_0, at3_1, at3_2, at2_0, at2_1, ix3_0, ix3_1, ix3_2, List.length_cons, List.length_nil, List.set_cons_zero, List.set_cons_succ, Nat.zero_add, Nat.reduceAdd, sem_fdivS, sem_mulS, sem_mod]
      · simp (maxSteps := 2000000) (disch := first | assumption | omega) only [wSs_nil, wS_set, wS_unp, wS_sidx, wS_smt, wS_ex, wS_ret, wS_ite, wS_pass, wE_cst, wE_glb, wE_var, wE_sv, wE_mv, wE_rf, wE_frz, wE_op, wEs_nil, wEs_cons, wE_and, wE_or, wE_ite, wE_call, wE_bm, wE_pop, wK_none, wK_some, wR_seq, wR_rng1, wR_rng2, wR_zip, oS_some, bS_bl, iS_int, Mini.get, Mini.put, Mini.clear, Mini.back, Mini.scal, sem_neg, sem_not, sem_isN, sem_notN, sem_addI, sem_sub, sem_lt, sem_le, sem_gt, sem_ge, sem_eq, sem_ne, sem_in, sem_ni, sem_ixL, sem_ixT, sem_ixS, sem_lenL, sem_lenT, sem_lenS, sem_abs, sem_max2, sem_min2, sem_tupL, sem_tupT, sem_listL, sem_listT, sem_sorted, sem_all, sem_intB, sem_intI, sem_isL, sem_mkL0, sem_mkL1, sem_mkL2, sem_mkL3, sem_mkT0, sem_mkT1, sem_mkT2, sem_mkT3, Mini.isLst, Mini.fill, Mini.refs, Mini.ref1, Mini.backR, Option.map_some, Mini.unpD, Mini.bindL, Mini.bindT, Mini.itemsD, Mini.recM, Mini.isNon, Mini.wOut, Mini.outsOf, Mini.own, List.take, true_and, and_true, if_true, Bool.false_eq_true, if_false, at3_0, at3_1, at3_2, at2_0, at2_1, ix3_0, ix3_1, ix3_2, List.length_cons, List.length_nil, List.set_cons_zero, List.set_cons_succ, Nat.zero_add, Nat.reduceAdd, sem_fdivS, sem_mulS, sem_mod]
        have hcat : ∀ m : Nat, m ≤ 10 → sem .cat [.lst (qs.map prD), .lst ((rg 0 m).map fun x => prD (x, 0 + (i : Int)))] = some (.lst ((qs ++ (rg 0 m).map fun x => (x, 0 + (i : Int))).map prD)) := fun m hm => by
          rw [sem_cat (by rw [List.length_map, List.length_map, limE, rg_len]; omega), List.map_append, List.map_map]
          rfl
        rw [hcat _ (by omega)]
        simp (maxSteps := 2000000) (disch := first | assumption | omega) only [wSs_nil, wS_set, wS_unp, wS_sidx, wS_smt, wS_ex, wS_ret, wS_ite, wS_pass, wE_cst, wE_glb, wE_var, wE_sv, wE_mv, wE_rf, wE_frz, wE_op, wEs_nil, wEs_cons, wE_and, wE_or, wE_ite, wE_call, wE_bm, wE_pop, wK_none, wK_some, wR_seq, wR_rng1, wR_rng2, wR_zip, oS_some, bS_bl, iS_int, Mini.get, Mini.put, Mini.clear, Mini.back, Mini.scal, sem_neg, sem_not, sem_isN, sem_notN, sem_addI, sem_sub, sem_lt, sem_le, sem_gt, sem_ge, sem_eq, sem_ne, sem_in, sem_ni, sem_ixL, sem_ixT, sem_ixS, sem_lenL, sem_lenT, sem_lenS, sem_abs, sem_max2, sem_min2, sem_tupL, sem_tupT, sem_listL, sem_listT, sem_sorted, sem_all, sem_intB, sem_intI, sem_isL, sem_mkL0, sem_mkL1, sem_mkL2, sem_mkL3, sem_mkT0, sem_mkT1, sem_mkT2, sem_mkT3, Mini.isLst, Mini.fill, Mini.refs, Mini.ref1, Mini.backR, Option.map_some, Mini.unpD, Mini.bindL, Mini.bindT, Mini.itemsD, Mini.recM, Mini.isNon, Mini.wOut, Mini.outsOf, Mini.own, List.take, true_and, and_true, if_true, Bool.false_eq_true, if_false, at3_0, at3_1, at3_2, at2_0, at2_1, ix3_0, ix3_1, ix3_2, List.length_cons, List.length_nil, List.set_cons_zero, List.set_cons_succ, Nat.zero_add, Nat.reduceAdd, sem_fdivS, sem_mulS, sem_mod]
        first
          | exact ⟨_, _, rfl, by rw [List.length_append, List.length_map, rg_len]; omega, by rw [show (0 : Int) + ((i + 1 : Nat) : Int) = 0 + (i : Int) + 1 from by omega]; exact hHq.row (by omega)⟩
          | (rw [wSs_nil]; exact ⟨_, _, rfl, by rw [List.length_append, List.length_map, rg_len]; omega, by rw [show (0 : Int) + ((i + 1 : Nat) : Int) = 0 + (i : Int) + 1 from by omega]; exact hHq.row (by omega)⟩)
    · rintro s ⟨qs, x4, rfl, e1, hHq⟩
      first
        | exact net7 n _ ⟨a, b, c, w, 2 + many % 8, qs, x4, x5, x6, rfl, by omega, by omega, by omega, hHq.weak (by omega)⟩
        | (rw [wSs_nil]; exact net7 n _ ⟨a, b, c, w, 2 + many % 8, qs, x4, x5, x6, rfl, by omega, by omega, by omega, hHq.weak (by omega)⟩)
  · try simp (maxSteps := 2000000) (disch := first | assumption | omega) only [wSs_nil, wS_set, wS_unp, wS_sidx, wS_smt, wS_ex, wS_ret, wS_ite, wS_pass, wE_cst, wE_glb, wE_var, wE_sv, wE_mv, wE_rf, wE_frz, wE_op, wEs_nil, wEs_cons, wE_and, wE_or, wE_ite, wE_call, wE_bm, wE_pop, wK_none, wK_some, wR_seq, wR_rng1, wR_rng2, wR_zip, oS_some, bS_bl, iS_int, Mini.get, Mini.put, Mini.clear, Mini.back, Mini.scal, sem_neg, sem_not, sem_isN, sem_notN, sem_addI, sem_sub, sem_lt, sem_le, sem_gt, sem_ge, sem_eq, sem_ne, sem_in, sem_ni, sem_ixL, sem_ixT, sem_ixS, sem_lenL, sem_lenT, sem_lenS, sem_abs, sem_max2, sem_min2, sem_tupL, sem_tupT, sem_listL, sem_listT, sem_sorted, sem_all, sem_intB, sem_intI, sem_isL, sem_mkL0, sem_mkL1, sem_mkL2, sem_mkL3, sem_mkT0, sem_mkT1, sem_mkT2, sem_mkT3, Mini.isLst, Mini.fill, Mini.refs, Mini.ref1, Mini.backR, Option.map_some, Mini.unpD, Mini.bindL, Mini.bindT, Mini.itemsD, Mini.recM, Mini.isNon, Mini.wOut, Mini.outsOf, Mini.own, List.take, true_and, and_true, if_true, Bool.false_eq_true, if_false, at3_0, at3_1, at3_2, at2_0, at2_1, ix3_0, ix3_1, ix3_2, List.length_cons, List.length_nil, List.set_cons_zero, List.set_cons_succ, Nat.zero_add, Nat.reduceAdd, sem_fdivS, sem_mulS, sem_mod]
    exact net7 n _ ⟨a, b, c, w, many, ps, x4, x5, x6, rfl, by omega, h2, h3, hH⟩
theorem net5 (n : Nat) (s : Sl) (h : NJ s) : wSs (callF fds (n + 3)) (dropS f10.body 5) s nKn nKr := by
  obtain ⟨a, b, c, w, many, ps, x4, x5, x6, rfl, h1, h2, h3, hH⟩ := h
  simp only [f10, dropS]
  (rw [wSs_cons]; simp (maxSteps := 2000000) (disch := first | assumption | omega) only [eqD_int, wSs_nil, wS_set, wS_unp, wS_sidx, wS_smt, wS_ex, wS_ret, wS_ite, wS_pass, wE_cst, wE_glb, wE_var, wE_sv, wE_mv, wE_rf, wE_frz, wE_op, wEs_nil, wEs_cons, wE_and, wE_or, wE_ite, wE_call, wE_bm, wE_pop, wK_none, wK_some, wR_seq, wR_rng1, wR_rng2, wR_zip, oS_some, bS_bl, iS_int, Mini.get, Mini.put, Mini.clear, Mini.back, Mini.scal, sem_neg, sem_not, sem_isN, sem_notN, sem_addI, sem_sub, sem_lt, sem_le, sem_gt, sem_ge, sem_eq, sem_ne, sem_in, sem_ni, sem_ixL, sem_ixT, sem_ixS, sem_lenL, sem_lenT, sem_lenS, sem_abs, sem_max2, sem_min2, sem_tupL, sem_tupT, sem_listL, sem_listT, sem_sorted, sem_all, sem_intB, sem_intI, sem_isL, sem_mkL0, sem_mkL1, sem_mkL2, sem_mkL3, sem_mkT0, sem_mkT1, sem_mkT2, sem_mkT3, Mini.isLst, Mini.fill, Mini.refs, Mini.ref1, Mini.backR, Option.map_some, Mini.unpD, Mini.bindL, Mini.bindT, Mini.itemsD, Mini.recM, Mini.isNon, Mini.wOut, Mini.outsOf, Mini.own, List.take, true_and, and_true, if_true, Bool.false_eq_true, if_false, at3_0, at3_1, at3_2, at2_0, at2_1, ix3_0, ix3_1, ix3_2, List.length_cons, List.length_nil, List.set_cons_zero, List.set_cons_succ, Nat.zero_add, Nat.reduceAdd, sem_fdivS, sem_mulS, sem_mod])
  split
  · have hm : 3 ≤ (if many > 3 then many else 3) ∧ (if many > 3 then many else 3) ≤ 32 := by split <;> omega
    (rw [wSs_cons]; simp (maxSteps := 2000000) (disch := first | assumption | omega) only [wSs_nil, wS_set, wS_unp, wS_sidx, wS_smt, wS_ex, wS_ret, wS_ite, wS_pass, wE_cst, wE_glb, wE_var, wE_sv, wE_mv, wE_rf, wE_frz, wE_op, wEs_nil, wEs_cons, wE_and, wE_or, wE_ite, wE_call, wE_bm, wE_pop, wK_none, wK_some, wR_seq, wR_rng1, wR_rng2, wR_zip, oS_some, bS_bl, iS_int, Mini.get, Mini.put, Mini.clear, Mini.back, Mini.scal, sem_neg, sem_not, sem_isN, sem_notN, sem_addI, sem_sub, sem_lt, sem_le, sem_gt, sem_ge, sem_eq, sem_ne, sem_in, sem_ni, sem_ixL, sem_ixT, sem_ixS, sem_lenL, sem_lenT, sem_lenS, sem_abs, sem_max2, sem_min2, sem_tupL, sem_tupT, sem_listL, sem_listT, sem_sorted, sem_all, sem_intB, sem_intI, sem_isL, sem_mkL0, sem_mkL1, sem_mkL2, sem_mkL3, sem_mkT0, sem_mkT1, sem_mkT2, sem_mkT3, Mini.isLst, Mini.fill, Mini.refs, Mini.ref1, Mini.backR, Option.map_some, Mini.unpD, Mini.bindL, Mini.bindT, Mini.itemsD, Mini.recM, Mini.isNon, Mini.wOut, Mini.outsOf, Mini.own, List.take, true_and, and_true, if_true, Bool.false_eq_true, if_false, at3_0, at3_1, at3_2, at2_0, at2_1, ix3_0, ix3_1, ix3_2, List.length_cons, List.length_nil, List.set_cons_zero, List.set_cons_succ, Nat.zero_add, Nat.reduceAdd, sem_fdivS, sem_mulS, sem_mod])
    generalize (if many > 3 then many else 3) = m at hm
    rw [wSs_cons]
    simp (maxSteps := 2000000) (disch := first | assumption | omega) only [wSs_nil, wS_set, wS_unp, wS_sidx, wS_smt, wS_ex, wS_ret, wS_ite, wS_pass, wE_cst, wE_glb, wE_var, wE_sv, wE_mv, wE_rf, wE_frz, wE_op, wEs_nil, wEs_cons, wE_and, wE_or, wE_ite, wE_call, wE_bm, wE_pop, wK_none, wK_some, wR_seq, wR_rng1, wR_rng2, wR_zip, oS_some, bS_bl, iS_int, Mini.get, Mini.put, Mini.clear, Mini.back, Mini.scal, sem_neg, sem_not, sem_isN, sem_notN, sem_addI, sem_sub, sem_lt, sem_le, sem_gt, sem_ge, sem_eq, sem_ne, sem_in, sem_ni, sem_ixL, sem_ixT, sem_ixS, sem_lenL, sem_lenT, sem_lenS, sem_abs, sem_max2, sem_min2, sem_tupL, sem_tupT, sem_listL, sem_listT, sem_sorted, sem_all, sem_intB, sem_intI, sem_isL, sem_mkL0, sem_mkL1, sem_mkL2, sem_mkL3, sem_mkT0, sem_mkT1, sem_mkT2, sem_mkT3, Mini.isLst, Mini.fill, Mini.refs, Mini.ref1, Mini.backR, Option.map_some, Mini.unpD, Mini.bindL, Mini.bindT, Mini.itemsD, Mini.recM, Mini.isNon, Mini.wOut, Mini.outsOf, Mini.own, List.take, true_and, and_true, if_true, Bool.false_eq_true, if_false, at3_0, at3_1, at3_2, at2_0, at2_1, ix3_0, ix3_1, ix3_2, List.length_cons, List.length_nil, List.set_cons_zero, List.set_cons_succ, Nat.zero_add, Nat.reduceAdd, sem_fdivS, sem_mulS, sem_mod]
    refine wE_comp ?_
    simp (maxSteps := 2000000) (disch := first | assumption | omega) only [wSs_nil, wS_set, wS_unp, wS_sidx, wS_smt, wS_ex, wS_ret, wS_ite, wS_pass, wE_cst, wE_glb, wE_var, wE_sv, wE_mv, wE_rf, wE_frz, wE_op, wEs_nil, wEs_cons, wE_and, wE_or, wE_ite, wE_call, wE_bm, wE_pop, wK_none, wK_some, wR_seq, wR_rng1, wR_rng2, wR_zip, oS_some, bS_bl, iS_int, Mini.get, Mini.put, Mini.clear, Mini.back, Mini.scal, sem_neg, sem_not, sem_isN, sem_notN, sem_addI, sem_sub, sem_lt, sem_le, sem_gt, sem_ge, sem_eq, sem_ne, sem_in, sem_ni, sem_ixL, sem_ixT, sem_ixS, sem_lenL, sem_lenT, sem_lenS, sem_abs, sem_max2, sem_min2, sem_tupL, sem_tupT, sem_listL, sem_listT, sem_sorted, sem_all, sem_intB, sem_intI, sem_isL, sem_mkL0, sem_mkL1, sem_mkL2, sem_mkL3, sem_mkT0, sem_mkT1, sem_mkT2, sem_mkT3, Mini.isLst, Mini.fill, Mini.refs, Mini.ref1, Mini.backR, Option.map_some, Mini.unpD, Mini.bindL, Mini.bindT, Mini.itemsD, Mini.recM, Mini.isNon, Mini.wOut, Mini.outsOf, Mini.own, List.take, true_and, and_true, if_true, Bool.false_eq_true, if_false, at3_0, at3_1, at3_2, at2_0, at2_1, ix3_0, ix3_1, ix3_2, List.length_cons, List.length_nil, List.set_cons_zero, List.set_cons_succ, Nat.zero_add, Nat.reduceAdd, sem_fdivS, sem_mulS, sem_mod]
    refine ⟨by omega, ?_⟩
    rw [rngD_rg]
    refine comp_map (rg 0 _) D.int (fun x => prD (x, x + 1)) (by rw [limE, rg_len]; omega) (fun x hx => ?_) ?_
    · simp (maxSteps := 2000000) (disch := first | assumption | omega) only [prD, wSs_nil, wS_set, wS_unp, wS_sidx, wS_smt, wS_ex, wS_ret, wS_ite, wS_pass, wE_cst, wE_glb, wE_var, wE_sv, wE_mv, wE_rf, wE_frz, wE_op, wEs_nil, wEs_cons, wE_and, wE_or, wE_ite, wE_call, wE_bm, wE_pop, wK_none, wK_some, wR_seq, wR_rng1, wR_rng2, wR_zip, oS_some, bS_bl, iS_int, Mini.get, Mini.put, Mini.clear, Mini.back, Mini.scal, sem_neg, sem_not, sem_isN, sem_notN, sem_addI, sem_sub, sem_lt, sem_le, sem_gt, sem_ge, sem_eq, sem_ne, sem_in, sem_ni, sem_ixL, sem_ixT, sem_ixS, sem_lenL, sem_lenT, sem_lenS, sem_abs, sem_max2, sem_min2, sem_tupL, sem_tupT, sem_listL, sem_listT, sem_sorted, sem_all, sem_intB, sem_intI, sem_isL, sem_mkL0, sem_mkL1, sem_mkL2, sem_mkL3, sem_mkT0, sem_mkT1, sem_mkT2, sem_mkT3, Mini.isLst, Mini.fill, Mini.refs, Mini.ref1, Mini.backR, Option.map_some, Mini.unpD, Mini.bindL, Mini.bindT, Mini.itemsD, Mini.recM, Mini.isNon, Mini.wOut, Mini.outsOf, Mini.own, List.take, true_and, and_true, if_true, Bool.false_eq_true, if_false, at3_0, at3_1, at3_2, at2_0, at2_1, ix3_0, ix3_1, ix3_2, List.length_cons, List.length_nil, List.set_cons_zero, List.set_cons_succ, Nat.zero_add, Nat.reduceAdd, sem_fdivS, sem_mulS, sem_mod]
    · have hcat : sem .cat [.lst ((rg 0 (m - 1).toNat).map fun x => prD (x, x + 1)), .lst [.tup [.int 0, .int (m - 1)]]] = some (.lst (((rg 0 (m - 1).toNat).map (fun x => (x, x + 1)) ++ [(0, m - 1)]).map prD)) := by
        rw [sem_cat (by rw [List.length_map, limE, rg_len, List.length_singleton]; omega), List.map_append, List.map_map]
        rfl
      simp (maxSteps := 2000000) (disch := first | assumption | omega) only [hcat, wSs_nil, wS_set, wS_unp, wS_sidx, wS_smt, wS_ex, wS_ret, wS_ite, wS_pass, wE_cst, wE_glb, wE_var, wE_sv, wE_mv, wE_rf, wE_frz, wE_op, wEs_nil, wEs_cons, wE_and, wE_or, wE_ite, wE_call, wE_bm, wE_pop, wK_none, wK_some, wR_seq, wR_rng1, wR_rng2, wR_zip, oS_some, bS_bl, iS_int, Mini.get, Mini.put, Mini.clear, Mini.back, Mini.scal, sem_neg, sem_not, sem_isN, sem_notN, sem_addI, sem_sub, sem_lt, sem_le, sem_gt, sem_ge, sem_eq, sem_ne, sem_in, sem_ni, sem_ixL, sem_ixT, sem_ixS, sem_lenL, sem_lenT, sem_lenS, sem_abs, sem_max2, sem_min2, sem_tupL, sem_tupT, sem_listL, sem_listT, sem_sorted, sem_all, sem_intB, sem_intI, sem_isL, sem_mkL0, sem_mkL1, sem_mkL2, sem_mkL3, sem_mkT0, sem_mkT1, sem_mkT2, sem_mkT3, Mini.isLst, Mini.fill, Mini.refs, Mini.ref1, Mini.backR, Option.map_some, Mini.unpD, Mini.bindL, Mini.bindT, Mini.itemsD, Mini.recM, Mini.isNon, Mini.wOut, Mini.outsOf, Mini.own, List.take, true_and, and_true, if_true, Bool.false_eq_true, if_false, at3_0, at3_1, at3_2, at2_0, at2_1, ix3_0, ix3_1, ix3_2, List.length_cons, List.length_nil, List.set_cons_zero, List.set_cons_succ, Nat.zero_add, Nat.reduceAdd, sem_fdivS, sem_mulS, sem_mod]
      have hq : ((rg 0 (m - 1).toNat).map (fun x => (x, x + 1)) ++ [(0, m - 1)]).length ≤ 5000 := by
        rw [List.length_append, List.length_map, rg_len, List.length_singleton]
        omega
      first
        | exact net6 n _ ⟨a, b, c, w, m, _, x4, x5, x6, rfl, by omega, hm.2, hq, .ring hm.1 (by omega)⟩
        | (rw [wSs_nil]; exact net6 n _ ⟨a, b, c, w, m, _, x4, x5, x6, rfl, by omega, hm.2, hq, .ring hm.1 (by omega)⟩)
  · try simp (maxSteps := 2000000) (disch := first | assumption | omega) only [wSs_nil, wS_set, wS_unp, wS_sidx, wS_smt, wS_ex, wS_ret, wS_ite, wS_pass, wE_cst, wE_glb, wE_var, wE_sv, wE_mv, wE_rf, wE_frz, wE_op, wEs_nil, wEs_cons, wE_and, wE_or, wE_ite, wE_call, wE_bm, wE_pop, wK_none, wK_some, wR_seq, wR_rng1, wR_rng2, wR_zip, oS_some, bS_bl, iS_int, Mini.get, Mini.put, Mini.clear, Mini.back, Mini.scal, sem_neg, sem_not, sem_isN, sem_notN, sem_addI, sem_sub, sem_lt, sem_le, sem_gt, sem_ge, sem_eq, sem_ne, sem_in, sem_ni, sem_ixL, sem_ixT, sem_ixS, sem_lenL, sem_lenT, sem_lenS, sem_abs, sem_max2, sem_min2, sem_tupL, sem_tupT, sem_listL, sem_listT, sem_sorted, sem_all, sem_intB, sem_intI, sem_isL, sem_mkL0, sem_mkL1, sem_mkL2, sem_mkL3, sem_mkT0, sem_mkT1, sem_mkT2, sem_mkT3, Mini.isLst, Mini.fill, Mini.refs, Mini.ref1, Mini.backR, Option.map_some, Mini.unpD, Mini.bindL, Mini.bindT, Mini.itemsD, Mini.recM, Mini.isNon, Mini.wOut, Mini.outsOf, Mini.own, List.take, true_and, and_true, if_true, Bool.false_eq_true, if_false, at3_0, at3_1, at3_2, at2_0, at2_1, ix3_0, ix3_1, ix3_2, List.length_cons, List.length_nil, List.set_cons_zero, List.set_cons_succ, Nat.zero_add, Nat.reduceAdd, sem_fdivS, sem_mulS, sem_mod]
    exact net6 n _ ⟨a, b, c, w, many, ps, x4, x5, x6, rfl, h1, h2, h3, hH⟩
theorem net_ok (n : Nat) (a b c : Int) : wC (callF fds (n + 4) 10 [pot a b c]) netQ := by
  refine wC_call (fd := f10) rfl rfl ?_
  show wSs (callF fds (n + 3)) f10.body [some (pot a b c), none, none, none, none, none, none] nKn nKr
  simp only [f10]
  (rw [wSs_cons]; simp (maxSteps := 2000000) (disch := first | assumption | omega) only [wSs_nil, wS_set, wS_unp, wS_sidx, wS_smt, wS_ex, wS_ret, wS_ite, wS_pass, wE_cst, wE_glb, wE_var, wE_sv, wE_mv, wE_rf, wE_frz, wE_op, wEs_nil, wEs_cons, wE_and, wE_or, wE_ite, wE_call, wE_bm, wE_pop, wK_none, wK_some, wR_seq, wR_rng1, wR_rng2, wR_zip, oS_some, bS_bl, iS_int, Mini.get, Mini.put, Mini.clear, Mini.back, Mini.scal, sem_neg, sem_not, sem_isN, sem_notN, sem_addI, sem_sub, sem_lt, sem_le, sem_gt, sem_ge, sem_eq, sem_ne, sem_in, sem_ni, sem_ixL, sem_ixT, sem_ixS, sem_lenL, sem_lenT, sem_lenS, sem_abs, sem_max2, sem_min2, sem_tupL, sem_tupT, sem_listL, sem_listT, sem_sorted, sem_all, sem_intB, sem_intI, sem_isL, sem_mkL0, sem_mkL1, sem_mkL2, sem_mkL3, sem_mkT0, sem_mkT1, sem_mkT2, sem_mkT3, Mini.isLst, Mini.fill, Mini.refs, Mini.ref1, Mini.backR, Option.map_some, Mini.unpD, Mini.bindL, Mini.bindT, Mini.itemsD, Mini.recM, Mini.isNon, Mini.wOut, Mini.outsOf, Mini.own, List.take, true_and, and_true, if_true, Bool.false_eq_true, if_false, at3_0, at3_1, at3_2, at2_0, at2_1, ix3_0, ix3_1, ix3_2, List.length_cons, List.length_nil, List.set_cons_zero, List.set_cons_succ, Nat.zero_add, Nat.reduceAdd, sem_fdivS, sem_mulS, sem_mod])
  refine wC_mono (take_ok (n + 2) a b c 7 (by omega) (by omega)) ?_
  rintro d os ⟨w, a, b, c, rfl, w1, w2, rfl⟩
  simp (maxSteps := 2000000) (disch := first | assumption | omega) only [wSs_nil, wS_set, wS_unp, wS_sidx, wS_smt, wS_ex, wS_ret, wS_ite, wS_pass, wE_cst, wE_glb, wE_var, wE_sv, wE_mv, wE_rf, wE_frz, wE_op, wEs_nil, wEs_cons, wE_and, wE_or, wE_ite, wE_call, wE_bm, wE_pop, wK_none, wK_some, wR_seq, wR_rng1, wR_rng2, wR_zip, oS_some, bS_bl, iS_int, Mini.get, Mini.put, Mini.clear, Mini.back, Mini.scal, sem_neg, sem_not, sem_isN, sem_notN, sem_addI, sem_sub, sem_lt, sem_le, sem_gt, sem_ge, sem_eq, sem_ne, sem_in, sem_ni, sem_ixL, sem_ixT, sem_ixS, sem_lenL, sem_lenT, sem_lenS, sem_abs, sem_max2, sem_min2, sem_tupL, sem_tupT, sem_listL, sem_listT, sem_sorted, sem_all, sem_intB, sem_intI, sem_isL, sem_mkL0, sem_mkL1, sem_mkL2, sem_mkL3, sem_mkT0, sem_mkT1, sem_mkT2, sem_mkT3, Mini.isLst, Mini.fill, Mini.refs, Mini.ref1, Mini.backR, Option.map_some, Mini.unpD, Mini.bindL, Mini.bindT, Mini.itemsD, Mini.recM, Mini.isNon, Mini.wOut, Mini.outsOf, Mini.own, List.take, true_and, and_true, if_true, Bool.false_eq_true, if_false, at3_0, at3_1, at3_2, at2_0, at2_1, ix3_0, ix3_1, ix3_2, List.length_cons, List.length_nil, List.set_cons_zero, List.set_cons_succ, Nat.zero_add, Nat.reduceAdd, sem_fdivS, sem_mulS, sem_mod]
  (rw [wSs_cons]; simp (maxSteps := 2000000) (disch := first | assumption | omega) only [wSs_nil, wS_set, wS_unp, wS_sidx, wS_smt, wS_ex, wS_ret, wS_ite, wS_pass, wE_cst, wE_glb, wE_var, wE_sv, wE_mv, wE_rf, wE_frz, wE_op, wEs_nil, wEs_cons, wE_and, wE_or, wE_ite, wE_call, wE_bm, wE_pop, wK_none, wK_some, wR_seq, wR_rng1, wR_rng2, wR_zip, oS_some, bS_bl, iS_int, Mini.get, Mini.put, Mini.clear, Mini.back, Mini.scal, sem_neg, sem_not, sem_isN, sem_notN, sem_addI, sem_sub, sem_lt, sem_le, sem_gt, sem_ge, sem_eq, sem_ne, sem_in, sem_ni, sem_ixL, sem_ixT, sem_ixS, sem_lenL, sem_lenT, sem_lenS, sem_abs, sem_max2, sem_min2, sem_tupL, sem_tupT, sem_listL, sem_listT, sem_sorted, sem_all, sem_intB, sem_intI, sem_isL, sem_mkL0, sem_mkL1, sem_mkL2, sem_mkL3, sem_mkT0, sem_mkT1, sem_mkT2, sem_mkT3, Mini.isLst, Mini.fill, Mini.refs, Mini.ref1, Mini.backR, Option.map_some, Mini.unpD, Mini.bindL, Mini.bindT, Mini.itemsD, Mini.recM, Mini.isNon, Mini.wOut, Mini.outsOf, Mini.own, List.take, true_and, and_true, if_true, Bool.false_eq_true, if_false, at3_0, at3_1, at3_2, at2_0, at2_1, ix3_0, ix3_1, ix3_2, List.length_cons, List.length_nil, List.set_cons_zero, List.set_cons_succ, Nat.zero_add, Nat.reduceAdd, sem_fdivS, sem_mulS, sem_mod])
  refine wC_mono (take_ok (n + 2) a b c 31 (by omega) (by omega)) ?_
  rintro d os ⟨r, a, b, c, rfl, r1, r2, rfl⟩
  simp (maxSteps := 2000000) (disch := first | assumption | omega) only [wSs_nil, wS_set, wS_unp, wS_sidx, wS_smt, wS_ex, wS_ret, wS_ite, wS_pass, wE_cst, wE_glb, wE_var, wE_sv, wE_mv, wE_rf, wE_frz, wE_op, wEs_nil, wEs_cons, wE_and, wE_or, wE_ite, wE_call, wE_bm, wE_pop, wK_none, wK_some, wR_seq, wR_rng1, wR_rng2, wR_zip, oS_some, bS_bl, iS_int, Mini.get, Mini.put, Mini.clear, Mini.back, Mini.scal, sem_neg, sem_not, sem_isN, sem_notN, sem_addI, sem_sub, sem_lt, sem_le, sem_gt, sem_ge, sem_eq, sem_ne, sem_in, sem_ni, sem_ixL, sem_ixT, sem_ixS, sem_lenL, sem_lenT, sem_lenS, sem_abs, sem_max2, sem_min2, sem_tupL, sem_tupT, sem_listL, sem_listT, sem_sorted, sem_all, sem_intB, sem_intI, sem_isL, sem_mkL0, sem_mkL1, sem_mkL2, sem_mkL3, sem_mkT0, sem_mkT1, sem_mkT2, sem_mkT3, Mini.isLst, Mini.fill, Mini.refs, Mini.ref1, Mini.backR, Option.map_some, Mini.unpD, Mini.bindL, Mini.bindT, Mini.itemsD, Mini.recM, Mini.isNon, Mini.wOut, Mini.outsOf, Mini.own, List.take, true_and, and_true, if_true, Bool.false_eq_true, if_false, at3_0, at3_1, at3_2, at2_0, at2_1, ix3_0, ix3_1, ix3_2, List.length_cons, List.length_nil, List.set_cons_zero, List.set_cons_succ, Nat.zero_add, Nat.reduceAdd, sem_fdivS, sem_mulS, sem_mod]
  (rw [wSs_cons]; simp (maxSteps := 2000000) (disch := first | assumption | omega) only [eqD_int, wSs_nil, wS_set, wS_unp, wS_sidx, wS_smt, wS_ex, wS_ret, wS_ite, wS_pass, wE_cst, wE_glb, wE_var, wE_sv, wE_mv, wE_rf, wE_frz, wE_op, wEs_nil, wEs_cons, wE_and, wE_or, wE_ite, wE_call, wE_bm, wE_pop, wK_none, wK_some, wR_seq, wR_rng1, wR_rng2, wR_zip, oS_some, bS_bl, iS_int, Mini.get, Mini.put, Mini.clear, Mini.back, Mini.scal, sem_neg, sem_not, sem_isN, sem_notN, sem_addI, sem_sub, sem_lt, sem_le, sem_gt, sem_ge, sem_eq, sem_ne, sem_in, sem_ni, sem_ixL, sem_ixT, sem_ixS, sem_lenL, sem_lenT, sem_lenS, sem_abs, sem_max2, sem_min2, sem_tupL, sem_tupT, sem_listL, sem_listT, sem_sorted, sem_all, sem_intB, sem_intI, sem_isL, sem_mkL0, sem_mkL1, sem_mkL2, sem_mkL3, sem_mkT0, sem_mkT1, sem_mkT2, sem_mkT3, Mini.isLst, Mini.fill, Mini.refs, Mini.ref1, Mini.backR, Option.map_some, Mini.unpD, Mini.bindL, Mini.bindT, Mini.itemsD, Mini.recM, Mini.isNon, Mini.wOut, Mini.outsOf, Mini.own, List.take, true_and, and_true, if_true, Bool.false_eq_true, if_false, at3_0, at3_1, at3_2, at2_0, at2_1, ix3_0, ix3_1, ix3_2, List.length_cons, List.length_nil, List.set_cons_zero, List.set_cons_succ, Nat.zero_add, Nat.reduceAdd, sem_fdivS, sem_mulS, sem_mod])
  split
  · (rw [wSs_cons]; simp (maxSteps := 2000000) (disch := first | assumption | omega) only [wSs_nil, wS_set, wS_unp, wS_sidx, wS_smt, wS_ex, wS_ret, wS_ite, wS_pass, wE_cst, wE_glb, wE_var, wE_sv, wE_mv, wE_rf, wE_frz, wE_op, wEs_nil, wEs_cons, wE_and, wE_or, wE_ite, wE_call, wE_bm, wE_pop, wK_none, wK_some, wR_seq, wR_rng1, wR_rng2, wR_zip, oS_some, bS_bl, iS_int, Mini.get, Mini.put, Mini.clear, Mini.back, Mini.scal, sem_neg, sem_not, sem_isN, sem_notN, sem_addI, sem_sub, sem_lt, sem_le, sem_gt, sem_ge, sem_eq, sem_ne, sem_in, sem_ni, sem_ixL, sem_ixT, sem_ixS, sem_lenL, sem_lenT, sem_lenS, sem_abs, sem_max2, sem_min2, sem_tupL, sem_tupT, sem_listL, sem_listT, sem_sorted, sem_all, sem_intB, sem_intI, sem_isL, sem_mkL0, sem_mkL1, sem_mkL2, sem_mkL3, sem_mkT0, sem_mkT1, sem_mkT2, sem_mkT3, Mini.isLst, Mini.fill, Mini.refs, Mini.ref1, Mini.backR, Option.map_some, Mini.unpD, Mini.bindL, Mini.bindT, Mini.itemsD, Mini.recM, Mini.isNon, Mini.wOut, Mini.outsOf, Mini.own, List.take, true_and, and_true, if_true, Bool.false_eq_true, if_false, at3_0, at3_1, at3_2, at2_0, at2_1, ix3_0, ix3_1, ix3_2, List.length_cons, List.length_nil, List.set_cons_zero, List.set_cons_succ, Nat.zero_add, Nat.reduceAdd, sem_fdivS, sem_mulS, sem_mod])
    refine wC_mono (way_ok n a b c (2 + r) (by omega) (by omega)) ?_
    rintro d os ⟨ps, a, b, c, rfl, hp, hH, rfl⟩
    simp (maxSteps := 2000000) (disch := first | assumption | omega) only [wSs_nil, wS_set, wS_unp, wS_sidx, wS_smt, wS_ex, wS_ret, wS_ite, wS_pass, wE_cst, wE_glb, wE_var, wE_sv, wE_mv, wE_rf, wE_frz, wE_op, wEs_nil, wEs_cons, wE_and, wE_or, wE_ite, wE_call, wE_bm, wE_pop, wK_none, wK_some, wR_seq, wR_rng1, wR_rng2, wR_zip, oS_some, bS_bl, iS_int, Mini.get, Mini.put, Mini.clear, Mini.back, Mini.scal, sem_neg, sem_not, sem_isN, sem_notN, sem_addI, sem_sub, sem_lt, sem_le, sem_gt, sem_ge, sem_eq, sem_ne, sem_in, sem_ni, sem_ixL, sem_ixT, sem_ixS, sem_lenL, sem_lenT, sem_lenS, sem_abs, sem_max2, sem_min2, sem_tupL, sem_tupT, sem_listL, sem_listT, sem_sorted, sem_all, sem_intB, sem_intI, sem_isL, sem_mkL0, sem_mkL1, sem_mkL2, sem_mkL3, sem_mkT0, sem_mkT1, sem_mkT2, sem_mkT3, Mini.isLst, Mini.fill, Mini.refs, Mini.ref1, Mini.backR, Option.map_some, Mini.unpD, Mini.bindL, Mini.bindT, Mini.itemsD, Mini.recM, Mini.isNon, Mini.wOut, Mini.outsOf, Mini.own, List.take, true_and, and_true, if_true, Bool.false_eq_true, if_false, at3_0, at3_1, at3_2, at2_0, at2_1, ix3_0, ix3_1, ix3_2, List.length_cons, List.length_nil, List.set_cons_zero, List.set_cons_succ, Nat.zero_add, Nat.reduceAdd, sem_fdivS, sem_mulS, sem_mod]
    exact ⟨2 + r, ps, a, b, c, rfl, by omega, by omega, by omega, hH, rfl⟩
  · try simp (maxSteps := 2000000) (disch := first | assumption | omega) only [wSs_nil, wS_set, wS_unp, wS_sidx, wS_smt, wS_ex, wS_ret, wS_ite, wS_pass, wE_cst, wE_glb, wE_var, wE_sv, wE_mv, wE_rf, wE_frz, wE_op, wEs_nil, wEs_cons, wE_and, wE_or, wE_ite, wE_call, wE_bm, wE_pop, wK_none, wK_some, wR_seq, wR_rng1, wR_rng2, wR_zip, oS_some, bS_bl, iS_int, Mini.get, Mini.put, Mini.clear, Mini.back, Mini.scal, sem_neg, sem_not, sem_isN, sem_notN, sem_addI, sem_sub, sem_lt, sem_le, sem_gt, sem_ge, sem_eq, sem_ne, sem_in, sem_ni, sem_ixL, sem_ixT, sem_ixS, sem_lenL, sem_lenT, sem_lenS, sem_abs, sem_max2, sem_min2, sem_tupL, sem_tupT, sem_listL, sem_listT, sem_sorted, sem_all, sem_intB, sem_intI, sem_isL, sem_mkL0, sem_mkL1, sem_mkL2, sem_mkL3, sem_mkT0, sem_mkT1, sem_mkT2, sem_mkT3, Mini.isLst, Mini.fill, Mini.refs, Mini.ref1, Mini.backR, Option.map_some, Mini.unpD, Mini.bindL, Mini.bindT, Mini.itemsD, Mini.recM, Mini.isNon, Mini.wOut, Mini.outsOf, Mini.own, List.take, true_and, and_true, if_true, Bool.false_eq_true, if_false, at3_0, at3_1, at3_2, at2_0, at2_1, ix3_0, ix3_1, ix3_2, List.length_cons, List.length_nil, List.set_cons_zero, List.set_cons_succ, Nat.zero_add, Nat.reduceAdd, sem_fdivS, sem_mulS, sem_mod]
    (rw [wSs_cons]; simp (maxSteps := 2000000) (disch := first | assumption | omega) only [wSs_nil, wS_set, wS_unp, wS_sidx, wS_smt, wS_ex, wS_ret, wS_ite, wS_pass, wE_cst, wE_glb, wE_var, wE_sv, wE_mv, wE_rf, wE_frz, wE_op, wEs_nil, wEs_cons, wE_and, wE_or, wE_ite, wE_call, wE_bm, wE_pop, wK_none, wK_some, wR_seq, wR_rng1, wR_rng2, wR_zip, oS_some, bS_bl, iS_int, Mini.get, Mini.put, Mini.clear, Mini.back, Mini.scal, sem_neg, sem_not, sem_isN, sem_notN, sem_addI, sem_sub, sem_lt, sem_le, sem_gt, sem_ge, sem_eq, sem_ne, sem_in, sem_ni, sem_ixL, sem_ixT, sem_ixS, sem_lenL, sem_lenT, sem_lenS, sem_abs, sem_max2, sem_min2, sem_tupL, sem_tupT, sem_listL, sem_listT, sem_sorted, sem_all, sem_intB, sem_intI, sem_isL, sem_mkL0, sem_mkL1, sem_mkL2, sem_mkL3, sem_mkT0, sem_mkT1, sem_mkT2, sem_mkT3, Mini.isLst, Mini.fill, Mini.refs, Mini.ref1, Mini.backR, Option.map_some, Mini.unpD, Mini.bindL, Mini.bindT, Mini.itemsD, Mini.recM, Mini.isNon, Mini.wOut, Mini.outsOf, Mini.own, List.take, true_and, and_true, if_true, Bool.false_eq_true, if_false, at3_0, at3_1, at3_2, at2_0, at2_1, ix3_0, ix3_1, ix3_2, List.length_cons, List.length_nil, List.set_cons_zero, List.set_cons_succ, Nat.zero_add, Nat.reduceAdd, sem_fdivS, sem_mulS, sem_mod])
    refine wC_mono (tree_ok (n + 1) a b c (2 + r) (by omega) (by omega)) ?_
    rintro d os ⟨ps, a, b, c, rfl, hp, hH, rfl⟩
    simp (maxSteps := 2000000) (disch := first | assumption | omega) only [wSs_nil, wS_set, wS_unp, wS_sidx, wS_smt, wS_ex, wS_ret, wS_ite, wS_pass, wE_cst, wE_glb, wE_var, wE_sv, wE_mv, wE_rf, wE_frz, wE_op, wEs_nil, wEs_cons, wE_and, wE_or, wE_ite, wE_call, wE_bm, wE_pop, wK_none, wK_some, wR_seq, wR_rng1, wR_rng2, wR_zip, oS_some, bS_bl, iS_int, Mini.get, Mini.put, Mini.clear, Mini.back, Mini.scal, sem_neg, sem_not, sem_isN, sem_notN, sem_addI, sem_sub, sem_lt, sem_le, sem_gt, sem_ge, sem_eq, sem_ne, sem_in, sem_ni, sem_ixL, sem_ixT, sem_ixS, sem_lenL, sem_lenT, sem_lenS, sem_abs, sem_max2, sem_min2, sem_tupL, sem_tupT, sem_listL, sem_listT, sem_sorted, sem_all, sem_intB, sem_intI, sem_isL, sem_mkL0, sem_mkL1, sem_mkL2, sem_mkL3, sem_mkT0, sem_mkT1, sem_mkT2, sem_mkT3, Mini.isLst, Mini.fill, Mini.refs, Mini.ref1, Mini.backR, Option.map_some, Mini.unpD, Mini.bindL, Mini.bindT, Mini.itemsD, Mini.recM, Mini.isNon, Mini.wOut, Mini.outsOf, Mini.own, List.take, true_and, and_true, if_true, Bool.false_eq_true, if_false, at3_0, at3_1, at3_2, at2_0, at2_1, ix3_0, ix3_1, ix3_2, List.length_cons, List.length_nil, List.set_cons_zero, List.set_cons_succ, Nat.zero_add, Nat.reduceAdd, sem_fdivS, sem_mulS, sem_mod]
    (rw [wSs_cons]; simp (maxSteps := 2000000) (disch := first | assumption | omega) only [eqD_int, wSs_nil, wS_set, wS_unp, wS_sidx, wS_smt, wS_ex, wS_ret, wS_ite, wS_pass, wE_cst, wE_glb, wE_var, wE_sv, wE_mv, wE_rf, wE_frz, wE_op, wEs_nil, wEs_cons, wE_and, wE_or, wE_ite, wE_call, wE_bm, wE_pop, wK_none, wK_some, wR_seq, wR_rng1, wR_rng2, wR_zip, oS_some, bS_bl, iS_int, Mini.get, Mini.put, Mini.clear, Mini.back, Mini.scal, sem_neg, sem_not, sem_isN, sem_notN, sem_addI, sem_sub, sem_lt, sem_le, sem_gt, sem_ge, sem_eq, sem_ne, sem_in, sem_ni, sem_ixL, sem_ixT, sem_ixS, sem_lenL, sem_lenT, sem_lenS, sem_abs, sem_max2, sem_min2, sem_tupL, sem_tupT, sem_listL, sem_listT, sem_sorted, sem_all, sem_intB, sem_intI, sem_isL, sem_mkL0, sem_mkL1, sem_mkL2, sem_mkL3, sem_mkT0, sem_mkT1, sem_mkT2, sem_mkT3, Mini.isLst, Mini.fill, Mini.refs, Mini.ref1, Mini.backR, Option.map_some, Mini.unpD, Mini.bindL, Mini.bindT, Mini.itemsD, Mini.recM, Mini.isNon, Mini.wOut, Mini.outsOf, Mini.own, List.take, true_and, and_true, if_true, Bool.false_eq_true, if_false, at3_0, at3_1, at3_2, at2_0, at2_1, ix3_0, ix3_1, ix3_2, List.length_cons, List.length_nil, List.set_cons_zero, List.set_cons_succ, Nat.zero_add, Nat.reduceAdd, sem_fdivS, sem_mulS, sem_mod])
    split
    · (rw [wSs_cons]; simp (maxSteps := 2000000) (disch := first | assumption | omega) only [wSs_nil, wS_set, wS_unp, wS_sidx, wS_smt, wS_ex, wS_ret, wS_ite, wS_pass, wE_cst, wE_glb, wE_var, wE_sv, wE_mv, wE_rf, wE_frz, wE_op, wEs_nil, wEs_cons, wE_and, wE_or, wE_ite, wE_call, wE_bm, wE_pop, wK_none, wK_some, wR_seq, wR_rng1, wR_rng2, wR_zip, oS_some, bS_bl, iS_int, Mini.get, Mini.put, Mini.clear, Mini.back, Mini.scal, sem_neg, sem_not, sem_isN, sem_notN, sem_addI, sem_sub, sem_lt, sem_le, sem_gt, sem_ge, sem_eq, sem_ne, sem_in, sem_ni, sem_ixL, sem_ixT, sem_ixS, sem_lenL, sem_lenT, sem_lenS, sem_abs, sem_max2, sem_min2, sem_tupL, sem_tupT, sem_listL, sem_listT, sem_sorted, sem_all, sem_intB, sem_intI, sem_isL, sem_mkL0, sem_mkL1, sem_mkL2, sem_mkL3, sem_mkT0, sem_mkT1, sem_mkT2, sem_mkT3, Mini.isLst, Mini.fill, Mini.refs, Mini.ref1, Mini.backR, Option.map_some, Mini.unpD, Mini.bindL, Mini.bindT, Mini.itemsD, Mini.recM, Mini.isNon, Mini.wOut, Mini.outsOf, Mini.own, List.take, true_and, and_true, if_true, Bool.false_eq_true, if_false, at3_0, at3_1, at3_2, at2_0, at2_1, ix3_0, ix3_1, ix3_2, List.length_cons, List.length_nil, List.set_cons_zero, List.set_cons_succ, Nat.zero_add, Nat.reduceAdd, sem_fdivS, sem_mulS, sem_mod])
      refine wC_mono (more_ok (n + 1) a b c (2 + r) ps (by omega) (by omega) hp hH) ?_
      rintro d os ⟨ps, a, b, c, rfl, hp, hH, rfl⟩
      simp (maxSteps := 2000000) (disch := first | assumption | omega) only [wSs_nil, wS_set, wS_unp, wS_sidx, wS_smt, wS_ex, wS_ret, wS_ite, wS_pass, wE_cst, wE_glb, wE_var, wE_sv, wE_mv, wE_rf, wE_frz, wE_op, wEs_nil, wEs_cons, wE_and, wE_or, wE_ite, wE_call, wE_bm, wE_pop, wK_none, wK_some, wR_seq, wR_rng1, wR_rng2, wR_zip, oS_some, bS_bl, iS_int, Mini.get, Mini.put, Mini.clear, Mini.back, Mini.scal, sem_neg, sem_not, sem_isN, sem_notN, sem_addI, sem_sub, sem_lt, sem_le, sem_gt, sem_ge, sem_eq, sem_ne, sem_in, sem_ni, sem_ixL, sem_ixT, sem_ixS, sem_lenL, sem_lenT, sem_lenS, sem_abs, sem_max2, sem_min2, sem_tupL, sem_tupT, sem_listL, sem_listT, sem_sorted, sem_all, sem_intB, sem_intI, sem_isL, sem_mkL0, sem_mkL1, sem_mkL2, sem_mkL3, sem_mkT0, sem_mkT1, sem_mkT2, sem_mkT3, Mini.isLst, Mini.fill, Mini.refs, Mini.ref1, Mini.backR, Option.map_some, Mini.unpD, Mini.bindL, Mini.bindT, Mini.itemsD, Mini.recM, Mini.isNon, Mini.wOut, Mini.outsOf, Mini.own, List.take, true_and, and_true, if_true, Bool.false_eq_true, if_false, at3_0, at3_1, at3_2, at2_0, at2_1, ix3_0, ix3_1, ix3_2, List.length_cons, List.length_nil, List.set_cons_zero, List.set_cons_succ, Nat.zero_add, Nat.reduceAdd, sem_fdivS, sem_mulS, sem_mod]
      first
        | exact net5 n _ ⟨a, b, c, w, 2 + r, ps, _, _, _, rfl, by omega, by omega, by omega, hH⟩
        | (rw [wSs_nil]; exact net5 n _ ⟨a, b, c, w, 2 + r, ps, _, _, _, rfl, by omega, by omega, by omega, hH⟩)
    · try simp (maxSteps := 2000000) (disch := first | assumption | omega) only [wSs_nil, wS_set, wS_unp, wS_sidx, wS_smt, wS_ex, wS_ret, wS_ite, wS_pass, wE_cst, wE_glb, wE_var, wE_sv, wE_mv, wE_rf, wE_frz, wE_op, wEs_nil, wEs_cons, wE_and, wE_or, wE_ite, wE_call, wE_bm, wE_pop, wK_none, wK_some, wR_seq, wR_rng1, wR_rng2, wR_zip, oS_some, bS_bl, iS_int, Mini.get, Mini.put, Mini.clear, Mini.back, Mini.scal, sem_neg, sem_not, sem_isN, sem_notN, sem_addI, sem_sub, sem_lt, sem_le, sem_gt, sem_ge, sem_eq, sem_ne, sem_in, sem_ni, sem_ixL, sem_ixT, sem_ixS, sem_lenL, sem_lenT, sem_lenS, sem_abs, sem_max2, sem_min2, sem_tupL, sem_tupT, sem_listL, sem_listT, sem_sorted, sem_all, sem_intB, sem_intI, sem_isL, sem_mkL0, sem_mkL1, sem_mkL2, sem_mkL3, sem_mkT0, sem_mkT1, sem_mkT2, sem_mkT3, Mini.isLst, Mini.fill, Mini.refs, Mini.ref1, Mini.backR, Option.map_some, Mini.unpD, Mini.bindL, Mini.bindT, Mini.itemsD, Mini.recM, Mini.isNon, Mini.wOut, Mini.outsOf, Mini.own, List.take, true_and, and_true, if_true, Bool.false_eq_true, if_false, at3_0, at3_1, at3_2, at2_0, at2_1, ix3_0, ix3_1, ix3_2, List.length_cons, List.length_nil, List.set_cons_zero, List.set_cons_succ, Nat.zero_add, Nat.reduceAdd, sem_fdivS, sem_mulS, sem_mod]
      exact net5 n _ ⟨a, b, c, w, 2 + r, ps, _, _, _, rfl, by omega, by omega, by omega, hH⟩
end Lk51

namespace Lk51
open Mini
theorem ground_ok (n : Nat) (a b c : Int) (waits : Bool) : wC (callF fds (n + 5) 11 [pot a b c, .bl waits]) fun d os => ∃ (many : Int) (ps : List (Int × Int)) (a b c : Int), d = .tup [.int many, .lst (ps.map prD)] ∧ 1 ≤ many ∧ many ≤ 32 ∧ ps.length ≤ 20000 ∧ Bal many ps ∧ os = [some (pot a b c), none] := by
  refine wC_call (fd := f11) rfl rfl ?_
  show wSs (callF fds (n + 4)) f11.body [some (pot a b c), some (.bl waits), none, none, none, none] _ _
  simp only [f11]
  (rw [wSs_cons]; simp (maxSteps := 2000000) (disch := first | assumption | omega) only [wSs_nil, wS_set, wS_unp, wS_sidx, wS_smt, wS_ex, wS_ret, wS_ite, wS_pass, wE_cst, wE_glb, wE_var, wE_sv, wE_mv, wE_rf, wE_frz, wE_op, wEs_nil, wEs_cons, wE_and, wE_or, wE_ite, wE_call, wE_bm, wE_pop, wK_none, wK_some, wR_seq, wR_rng1, wR_rng2, wR_zip, oS_some, bS_bl, iS_int, Mini.get, Mini.put, Mini.clear, Mini.back, Mini.scal, sem_neg, sem_not, sem_isN, sem_notN, sem_addI, sem_sub, sem_lt, sem_le, sem_gt, sem_ge, sem_eq, sem_ne, sem_in, sem_ni, sem_ixL, sem_ixT, sem_ixS, sem_lenL, sem_lenT, sem_lenS, sem_abs, sem_max2, sem_min2, sem_tupL, sem_tupT, sem_listL, sem_listT, sem_sorted, sem_all, sem_intB, sem_intI, sem_isL, sem_mkL0, sem_mkL1, sem_mkL2, sem_mkL3, sem_mkT0, sem_mkT1, sem_mkT2, sem_mkT3, Mini.isLst, Mini.fill, Mini.refs, Mini.ref1, Mini.backR, Option.map_some, Mini.unpD, Mini.bindL, Mini.bindT, Mini.itemsD, Mini.recM, Mini.isNon, Mini.wOut, Mini.outsOf, Mini.own, List.take, true_and, and_true, if_true, Bool.false_eq_true, if_false, at3_0, at3_1, at3_2, at2_0, at2_1, ix3_0, ix3_1, ix3_2, List.length_cons, List.length_nil, List.set_cons_zero, List.set_cons_succ, Nat.zero_add, Nat.reduceAdd, sem_fdivS, sem_mulS, sem_mod])
  split
  · (rw [wSs_cons]; simp (maxSteps := 2000000) (disch := first | assumption | omega) only [wSs_nil, wS_set, wS_unp, wS_sidx, wS_smt, wS_ex, wS_ret, wS_ite, wS_pass, wE_cst, wE_glb, wE_var, wE_sv, wE_mv, wE_rf, wE_frz, wE_op, wEs_nil, wEs_cons, wE_and, wE_or, wE_ite, wE_call, wE_bm, wE_pop, wK_none, wK_some, wR_seq, wR_rng1, wR_rng2, wR_zip, oS_some, bS_bl, iS_int, Mini.get, Mini.put, Mini.clear, Mini.back, Mini.scal, sem_neg, sem_not, sem_isN, sem_notN, sem_addI, sem_sub, sem_lt, sem_le, sem_gt, sem_ge, sem_eq, sem_ne, sem_in, sem_ni, sem_ixL, sem_ixT, sem_ixS, sem_lenL, sem_lenT, sem_lenS, sem_abs, sem_max2, sem_min2, sem_tupL, sem_tupT, sem_listL, sem_listT, sem_sorted, sem_all, sem_intB, sem_intI, sem_isL, sem_mkL0, sem_mkL1, sem_mkL2, sem_mkL3, sem_mkT0, sem_mkT1, sem_mkT2, sem_mkT3, Mini.isLst, Mini.fill, Mini.refs, Mini.ref1, Mini.backR, Option.map_some, Mini.unpD, Mini.bindL, Mini.bindT, Mini.itemsD, Mini.recM, Mini.isNon, Mini.wOut, Mini.outsOf, Mini.own, List.take, true_and, and_true, if_true, Bool.false_eq_true, if_false, at3_0, at3_1, at3_2, at2_0, at2_1, ix3_0, ix3_1, ix3_2, List.length_cons, List.length_nil, List.set_cons_zero, List.set_cons_succ, Nat.zero_add, Nat.reduceAdd, sem_fdivS, sem_mulS, sem_mod])
    refine wC_mono (net_ok n a b c) ?_
    rintro d os ⟨many, ps, a, b, c, rfl, h1, h2, h3, hB, rfl⟩
    simp (maxSteps := 2000000) (disch := first | assumption | omega) only [wSs_nil, wS_set, wS_unp, wS_sidx, wS_smt, wS_ex, wS_ret, wS_ite, wS_pass, wE_cst, wE_glb, wE_var, wE_sv, wE_mv, wE_rf, wE_frz, wE_op, wEs_nil, wEs_cons, wE_and, wE_or, wE_ite, wE_call, wE_bm, wE_pop, wK_none, wK_some, wR_seq, wR_rng1, wR_rng2, wR_zip, oS_some, bS_bl, iS_int, Mini.get, Mini.put, Mini.clear, Mini.back, Mini.scal, sem_neg, sem_not, sem_isN, sem_notN, sem_addI, sem_sub, sem_lt, sem_le, sem_gt, sem_ge, sem_eq, sem_ne, sem_in, sem_ni, sem_ixL, sem_ixT, sem_ixS, sem_lenL, sem_lenT, sem_lenS, sem_abs, sem_max2, sem_min2, sem_tupL, sem_tupT, sem_listL, sem_listT, sem_sorted, sem_all, sem_intB, sem_intI, sem_isL, sem_mkL0, sem_mkL1, sem_mkL2, sem_mkL3, sem_mkT0, sem_mkT1, sem_mkT2, sem_mkT3, Mini.isLst, Mini.fill, Mini.refs, Mini.ref1, Mini.backR, Option.map_some, Mini.unpD, Mini.bindL, Mini.bindT, Mini.itemsD, Mini.recM, Mini.isNon, Mini.wOut, Mini.outsOf, Mini.own, List.take, true_and, and_true, if_true, Bool.false_eq_true, if_false, at3_0, at3_1, at3_2, at2_0, at2_1, ix3_0, ix3_1, ix3_2, List.length_cons, List.length_nil, List.set_cons_zero, List.set_cons_succ, Nat.zero_add, Nat.reduceAdd, sem_fdivS, sem_mulS, sem_mod]
    exact ⟨many, ps, a, b, c, rfl, h1, h2, h3, hB, rfl⟩
  · try simp (maxSteps := 2000000) (disch := first | assumption | omega) only [wSs_nil, wS_set, wS_unp, wS_sidx, wS_smt, wS_ex, wS_ret, wS_ite, wS_pass, wE_cst, wE_glb, wE_var, wE_sv, wE_mv, wE_rf, wE_frz, wE_op, wEs_nil, wEs_cons, wE_and, wE_or, wE_ite, wE_call, wE_bm, wE_pop, wK_none, wK_some, wR_seq, wR_rng1, wR_rng2, wR_zip, oS_some, bS_bl, iS_int, Mini.get, Mini.put, Mini.clear, Mini.back, Mini.scal, sem_neg, sem_not, sem_isN, sem_notN, sem_addI, sem_sub, sem_lt, sem_le, sem_gt, sem_ge, sem_eq, sem_ne, sem_in, sem_ni, sem_ixL, sem_ixT, sem_ixS, sem_lenL, sem_lenT, sem_lenS, sem_abs, sem_max2, sem_min2, sem_tupL, sem_tupT, sem_listL, sem_listT, sem_sorted, sem_all, sem_intB, sem_intI, sem_isL, sem_mkL0, sem_mkL1, sem_mkL2, sem_mkL3, sem_mkT0, sem_mkT1, sem_mkT2, sem_mkT3, Mini.isLst, Mini.fill, Mini.refs, Mini.ref1, Mini.backR, Option.map_some, Mini.unpD, Mini.bindL, Mini.bindT, Mini.itemsD, Mini.recM, Mini.isNon, Mini.wOut, Mini.outsOf, Mini.own, List.take, true_and, and_true, if_true, Bool.false_eq_true, if_false, at3_0, at3_1, at3_2, at2_0, at2_1, ix3_0, ix3_1, ix3_2, List.length_cons, List.length_nil, List.set_cons_zero, List.set_cons_succ, Nat.zero_add, Nat.reduceAdd, sem_fdivS, sem_mulS, sem_mod]
    (rw [wSs_cons]; simp (maxSteps := 2000000) (disch := first | assumption | omega) only [wSs_nil, wS_set, wS_unp, wS_sidx, wS_smt, wS_ex, wS_ret, wS_ite, wS_pass, wE_cst, wE_glb, wE_var, wE_sv, wE_mv, wE_rf, wE_frz, wE_op, wEs_nil, wEs_cons, wE_and, wE_or, wE_ite, wE_call, wE_bm, wE_pop, wK_none, wK_some, wR_seq, wR_rng1, wR_rng2, wR_zip, oS_some, bS_bl, iS_int, Mini.get, Mini.put, Mini.clear, Mini.back, Mini.scal, sem_neg, sem_not, sem_isN, sem_notN, sem_addI, sem_sub, sem_lt, sem_le, sem_gt, sem_ge, sem_eq, sem_ne, sem_in, sem_ni, sem_ixL, sem_ixT, sem_ixS, sem_lenL, sem_lenT, sem_lenS, sem_abs, sem_max2, sem_min2, sem_tupL, sem_tupT, sem_listL, sem_listT, sem_sorted, sem_all, sem_intB, sem_intI, sem_isL, sem_mkL0, sem_mkL1, sem_mkL2, sem_mkL3, sem_mkT0, sem_mkT1, sem_mkT2, sem_mkT3, Mini.isLst, Mini.fill, Mini.refs, Mini.ref1, Mini.backR, Option.map_some, Mini.unpD, Mini.bindL, Mini.bindT, Mini.itemsD, Mini.recM, Mini.isNon, Mini.wOut, Mini.outsOf, Mini.own, List.take, true_and, and_true, if_true, Bool.false_eq_true, if_false, at3_0, at3_1, at3_2, at2_0, at2_1, ix3_0, ix3_1, ix3_2, List.length_cons, List.length_nil, List.set_cons_zero, List.set_cons_succ, Nat.zero_add, Nat.reduceAdd, sem_fdivS, sem_mulS, sem_mod])
    refine wC_mono (sides_ok (n + 2) a b c) ?_
    rintro d os ⟨l, a, b, c, rfl, g1, g2, g3, g4, rfl⟩
    simp (maxSteps := 2000000) (disch := first | assumption | omega) only [wSs_nil, wS_set, wS_unp, wS_sidx, wS_smt, wS_ex, wS_ret, wS_ite, wS_pass, wE_cst, wE_glb, wE_var, wE_sv, wE_mv, wE_rf, wE_frz, wE_op, wEs_nil, wEs_cons, wE_and, wE_or, wE_ite, wE_call, wE_bm, wE_pop, wK_none, wK_some, wR_seq, wR_rng1, wR_rng2, wR_zip, oS_some, bS_bl, iS_int, Mini.get, Mini.put, Mini.clear, Mini.back, Mini.scal, sem_neg, sem_not, sem_isN, sem_notN, sem_addI, sem_sub, sem_lt, sem_le, sem_gt, sem_ge, sem_eq, sem_ne, sem_in, sem_ni, sem_ixL, sem_ixT, sem_ixS, sem_lenL, sem_lenT, sem_lenS, sem_abs, sem_max2, sem_min2, sem_tupL, sem_tupT, sem_listL, sem_listT, sem_sorted, sem_all, sem_intB, sem_intI, sem_isL, sem_mkL0, sem_mkL1, sem_mkL2, sem_mkL3, sem_mkT0, sem_mkT1, sem_mkT2, sem_mkT3, Mini.isLst, Mini.fill, Mini.refs, Mini.ref1, Mini.backR, Option.map_some, Mini.unpD, Mini.bindL, Mini.bindT, Mini.itemsD, Mini.recM, Mini.isNon, Mini.wOut, Mini.outsOf, Mini.own, List.take, true_and, and_true, if_true, Bool.false_eq_true, if_false, at3_0, at3_1, at3_2, at2_0, at2_1, ix3_0, ix3_1, ix3_2, List.length_cons, List.length_nil, List.set_cons_zero, List.set_cons_succ, Nat.zero_add, Nat.reduceAdd, sem_fdivS, sem_mulS, sem_mod]
    refine wC_mono (box_ok (n + 3) l g1 g2 g4) ?_
    rintro d os ⟨qs, rfl, hq, hHq, rfl⟩
    simp (maxSteps := 2000000) (disch := first | assumption | omega) only [wSs_nil, wS_set, wS_unp, wS_sidx, wS_smt, wS_ex, wS_ret, wS_ite, wS_pass, wE_cst, wE_glb, wE_var, wE_sv, wE_mv, wE_rf, wE_frz, wE_op, wEs_nil, wEs_cons, wE_and, wE_or, wE_ite, wE_call, wE_bm, wE_pop, wK_none, wK_some, wR_seq, wR_rng1, wR_rng2, wR_zip, oS_some, bS_bl, iS_int, Mini.get, Mini.put, Mini.clear, Mini.back, Mini.scal, sem_neg, sem_not, sem_isN, sem_notN, sem_addI, sem_sub, sem_lt, sem_le, sem_gt, sem_ge, sem_eq, sem_ne, sem_in, sem_ni, sem_ixL, sem_ixT, sem_ixS, sem_lenL, sem_lenT, sem_lenS, sem_abs, sem_max2, sem_min2, sem_tupL, sem_tupT, sem_listL, sem_listT, sem_sorted, sem_all, sem_intB, sem_intI, sem_isL, sem_mkL0, sem_mkL1, sem_mkL2, sem_mkL3, sem_mkT0, sem_mkT1, sem_mkT2, sem_mkT3, Mini.isLst, Mini.fill, Mini.refs, Mini.ref1, Mini.backR, Option.map_some, Mini.unpD, Mini.bindL, Mini.bindT, Mini.itemsD, Mini.recM, Mini.isNon, Mini.wOut, Mini.outsOf, Mini.own, List.take, true_and, and_true, if_true, Bool.false_eq_true, if_false, at3_0, at3_1, at3_2, at2_0, at2_1, ix3_0, ix3_1, ix3_2, List.length_cons, List.length_nil, List.set_cons_zero, List.set_cons_succ, Nat.zero_add, Nat.reduceAdd, sem_fdivS, sem_mulS, sem_mod]
    rw [wSs_cons]
    simp (maxSteps := 2000000) (disch := first | assumption | omega) only [wSs_nil, wS_set, wS_unp, wS_sidx, wS_smt, wS_ex, wS_ret, wS_ite, wS_pass, wE_cst, wE_glb, wE_var, wE_sv, wE_mv, wE_rf, wE_frz, wE_op, wEs_nil, wEs_cons, wE_and, wE_or, wE_ite, wE_call, wE_bm, wE_pop, wK_none, wK_some, wR_seq, wR_rng1, wR_rng2, wR_zip, oS_some, bS_bl, iS_int, Mini.get, Mini.put, Mini.clear, Mini.back, Mini.scal, sem_neg, sem_not, sem_isN, sem_notN, sem_addI, sem_sub, sem_lt, sem_le, sem_gt, sem_ge, sem_eq, sem_ne, sem_in, sem_ni, sem_ixL, sem_ixT, sem_ixS, sem_lenL, sem_lenT, sem_lenS, sem_abs, sem_max2, sem_min2, sem_tupL, sem_tupT, sem_listL, sem_listT, sem_sorted, sem_all, sem_intB, sem_intI, sem_isL, sem_mkL0, sem_mkL1, sem_mkL2, sem_mkL3, sem_mkT0, sem_mkT1, sem_mkT2, sem_mkT3, Mini.isLst, Mini.fill, Mini.refs, Mini.ref1, Mini.backR, Option.map_some, Mini.unpD, Mini.bindL, Mini.bindT, Mini.itemsD, Mini.recM, Mini.isNon, Mini.wOut, Mini.outsOf, Mini.own, List.take, true_and, and_true, if_true, Bool.false_eq_true, if_false, at3_0, at3_1, at3_2, at2_0, at2_1, ix3_0, ix3_1, ix3_2, List.length_cons, List.length_nil, List.set_cons_zero, List.set_cons_succ, Nat.zero_add, Nat.reduceAdd, sem_fdivS, sem_mulS, sem_mod]
    refine wE_comp ?_
    simp (maxSteps := 2000000) (disch := first | assumption | omega) only [wSs_nil, wS_set, wS_unp, wS_sidx, wS_smt, wS_ex, wS_ret, wS_ite, wS_pass, wE_cst, wE_glb, wE_var, wE_sv, wE_mv, wE_rf, wE_frz, wE_op, wEs_nil, wEs_cons, wE_and, wE_or, wE_ite, wE_call, wE_bm, wE_pop, wK_none, wK_some, wR_seq, wR_rng1, wR_rng2, wR_zip, oS_some, bS_bl, iS_int, Mini.get, Mini.put, Mini.clear, Mini.back, Mini.scal, sem_neg, sem_not, sem_isN, sem_notN, sem_addI, sem_sub, sem_lt, sem_le, sem_gt, sem_ge, sem_eq, sem_ne, sem_in, sem_ni, sem_ixL, sem_ixT, sem_ixS, sem_lenL, sem_lenT, sem_lenS, sem_abs, sem_max2, sem_min2, sem_tupL, sem_tupT, sem_listL, sem_listT, sem_sorted, sem_all, sem_intB, sem_intI, sem_isL, sem_mkL0, sem_mkL1, sem_mkL2, sem_mkL3, sem_mkT0, sem_mkT1, sem_mkT2, sem_mkT3, Mini.isLst, Mini.fill, Mini.refs, Mini.ref1, Mini.backR, Option.map_some, Mini.unpD, Mini.bindL, Mini.bindT, Mini.itemsD, Mini.recM, Mini.isNon, Mini.wOut, Mini.outsOf, Mini.own, List.take, true_and, and_true, if_true, Bool.false_eq_true, if_false, at3_0, at3_1, at3_2, at2_0, at2_1, ix3_0, ix3_1, ix3_2, List.length_cons, List.length_nil, List.set_cons_zero, List.set_cons_succ, Nat.zero_add, Nat.reduceAdd, sem_fdivS, sem_mulS, sem_mod]
    refine comp_map qs prD (fun p => prD (p.2, p.1)) (by rw [limE]; omega) (fun p hp => ?_) ?_
    · simp (maxSteps := 2000000) (disch := first | assumption | omega) only [prD, wSs_nil, wS_set, wS_unp, wS_sidx, wS_smt, wS_ex, wS_ret, wS_ite, wS_pass, wE_cst, wE_glb, wE_var, wE_sv, wE_mv, wE_rf, wE_frz, wE_op, wEs_nil, wEs_cons, wE_and, wE_or, wE_ite, wE_call, wE_bm, wE_pop, wK_none, wK_some, wR_seq, wR_rng1, wR_rng2, wR_zip, oS_some, bS_bl, iS_int, Mini.get, Mini.put, Mini.clear, Mini.back, Mini.scal, sem_neg, sem_not, sem_isN, sem_notN, sem_addI, sem_sub, sem_lt, sem_le, sem_gt, sem_ge, sem_eq, sem_ne, sem_in, sem_ni, sem_ixL, sem_ixT, sem_ixS, sem_lenL, sem_lenT, sem_lenS, sem_abs, sem_max2, sem_min2, sem_tupL, sem_tupT, sem_listL, sem_listT, sem_sorted, sem_all, sem_intB, sem_intI, sem_isL, sem_mkL0, sem_mkL1, sem_mkL2, sem_mkL3, sem_mkT0, sem_mkT1, sem_mkT2, sem_mkT3, Mini.isLst, Mini.fill, Mini.refs, Mini.ref1, Mini.backR, Option.map_some, Mini.unpD, Mini.bindL, Mini.bindT, Mini.itemsD, Mini.recM, Mini.isNon, Mini.wOut, Mini.outsOf, Mini.own, List.take, true_and, and_true, if_true, Bool.false_eq_true, if_false, at3_0, at3_1, at3_2, at2_0, at2_1, ix3_0, ix3_1, ix3_2, List.length_cons, List.length_nil, List.set_cons_zero, List.set_cons_succ, Nat.zero_add, Nat.reduceAdd, sem_fdivS, sem_mulS, sem_mod]
    · obtain ⟨rs, hr, hl, hB⟩ := both_ways (ps := qs) (f := fun p => prD (p.2, p.1)) (fun _ => rfl) (by omega) hHq
      simp (maxSteps := 2000000) (disch := first | assumption | omega) only [hr, sortD_prs, wSs_nil, wS_set, wS_unp, wS_sidx, wS_smt, wS_ex, wS_ret, wS_ite, wS_pass, wE_cst, wE_glb, wE_var, wE_sv, wE_mv, wE_rf, wE_frz, wE_op, wEs_nil, wEs_cons, wE_and, wE_or, wE_ite, wE_call, wE_bm, wE_pop, wK_none, wK_some, wR_seq, wR_rng1, wR_rng2, wR_zip, oS_some, bS_bl, iS_int, Mini.get, Mini.put, Mini.clear, Mini.back, Mini.scal, sem_neg, sem_not, sem_isN, sem_notN, sem_addI, sem_sub, sem_lt, sem_le, sem_gt, sem_ge, sem_eq, sem_ne, sem_in, sem_ni, sem_ixL, sem_ixT, sem_ixS, sem_lenL, sem_lenT, sem_lenS, sem_abs, sem_max2, sem_min2, sem_tupL, sem_tupT, sem_listL, sem_listT, sem_sorted, sem_all, sem_intB, sem_intI, sem_isL, sem_mkL0, sem_mkL1, sem_mkL2, sem_mkL3, sem_mkT0, sem_mkT1, sem_mkT2, sem_mkT3, Mini.isLst, Mini.fill, Mini.refs, Mini.ref1, Mini.backR, Option.map_some, Mini.unpD, Mini.bindL, Mini.bindT, Mini.itemsD, Mini.recM, Mini.isNon, Mini.wOut, Mini.outsOf, Mini.own, List.take, true_and, and_true, if_true, Bool.false_eq_true, if_false, at3_0, at3_1, at3_2, at2_0, at2_1, ix3_0, ix3_1, ix3_2, List.length_cons, List.length_nil, List.set_cons_zero, List.set_cons_succ, Nat.zero_add, Nat.reduceAdd, sem_fdivS, sem_mulS, sem_mod]
      exact ⟨l.prod, _, a, b, c, rfl, g3, g2, by rw [isort_len]; omega, hB.perm (isort_prm _ _), rfl⟩
def oL (l : List Int) : D := .lst (l.map .int)
def OutsOk (many : Int) (ties : List (Int × Int)) (oss : List (List Int)) : Prop := oss.length = many.toNat ∧ ∀ h : Nat, (h : Int) < many → (oss.getD h []).Perm ((ties.filter fun p => decide (p.1 = (h : Int))).map (·.2))
theorem mod_back {i y m : Int} (h0 : 0 ≤ y) (h1 : y < m) : (i + (y - i) % m) % m = y := by
  rw [Int.add_emod, Int.emod_emod_of_dvd _ (Int.dvd_refl m), ← Int.add_emod]
  have : i + (y - i) = y := by omega
  rw [this]
  exact Int.emod_eq_of_lt h0 h1
theorem outs_ok (n : Nat) (many : Int) (ties : List (Int × Int)) (h1 : 1 ≤ many) (h2 : many ≤ 32) (h3 : ties.length ≤ 20000) (hB : Bal many ties) : wC (callF fds (n + 1) 12 [.int many, .lst (ties.map prD)]) fun d os => ∃ oss : List (List Int), d = .lst (oss.map oL) ∧ OutsOk many ties oss ∧ os = [none, none] := by
  refine wC_call (fd := f12) rfl rfl ?_
  show wSs (callF fds n) f12.body [some (.int many), some (.lst (ties.map prD)), none, none, none, none, none, none] _ _
  simp only [f12]
  (rw [wSs_cons]; simp (maxSteps := 2000000) (disch := first | assumption | omega) only [wSs_nil, wS_set, wS_unp, wS_sidx, wS_smt, wS_ex, wS_ret, wS_ite, wS_pass, wE_cst, wE_glb, wE_var, wE_sv, wE_mv, wE_rf, wE_frz, wE_op, wEs_nil, wEs_cons, wE_and, wE_or, wE_ite, wE_call, wE_bm, wE_pop, wK_none, wK_some, wR_seq, wR_rng1, wR_rng2, wR_zip, oS_some, bS_bl, iS_int, Mini.get, Mini.put, Mini.clear, Mini.back, Mini.scal, sem_neg, sem_not, sem_isN, sem_notN, sem_addI, sem_sub, sem_lt, sem_le, sem_gt, sem_ge, sem_eq, sem_ne, sem_in, sem_ni, sem_ixL, sem_ixT, sem_ixS, sem_lenL, sem_lenT, sem_lenS, sem_abs, sem_max2, sem_min2, sem_tupL, sem_tupT, sem_listL, sem_listT, sem_sorted, sem_all, sem_intB, sem_intI, sem_isL, sem_mkL0, sem_mkL1, sem_mkL2, sem_mkL3, sem_mkT0, sem_mkT1, sem_mkT2, sem_mkT3, Mini.isLst, Mini.fill, Mini.refs, Mini.ref1, Mini.backR, Option.map_some, Mini.unpD, Mini.bindL, Mini.bindT, Mini.itemsD, Mini.recM, Mini.isNon, Mini.wOut, Mini.outsOf, Mini.own, List.take, true_and, and_true, if_true, Bool.false_eq_true, if_false, at3_0, at3_1, at3_2, at2_0, at2_1, ix3_0, ix3_1, ix3_2, List.length_cons, List.length_nil, List.set_cons_zero, List.set_cons_succ, Nat.zero_add, Nat.reduceAdd, sem_fdivS, sem_mulS, sem_mod])
  rw [wSs_cons]
  refine wS_for ?_
  simp (maxSteps := 2000000) (disch := first | assumption | omega) only [wSs_nil, wS_set, wS_unp, wS_sidx, wS_smt, wS_ex, wS_ret, wS_ite, wS_pass, wE_cst, wE_glb, wE_var, wE_sv, wE_mv, wE_rf, wE_frz, wE_op, wEs_nil, wEs_cons, wE_and, wE_or, wE_ite, wE_call, wE_bm, wE_pop, wK_none, wK_some, wR_seq, wR_rng1, wR_rng2, wR_zip, oS_some, bS_bl, iS_int, Mini.get, Mini.put, Mini.clear, Mini.back, Mini.scal, sem_neg, sem_not, sem_isN, sem_notN, sem_addI, sem_sub, sem_lt, sem_le, sem_gt, sem_ge, sem_eq, sem_ne, sem_in, sem_ni, sem_ixL, sem_ixT, sem_ixS, sem_lenL, sem_lenT, sem_lenS, sem_abs, sem_max2, sem_min2, sem_tupL, sem_tupT, sem_listL, sem_listT, sem_sorted, sem_all, sem_intB, sem_intI, sem_isL, sem_mkL0, sem_mkL1, sem_mkL2, sem_mkL3, sem_mkT0, sem_mkT1, sem_mkT2, sem_mkT3, Mini.isLst, Mini.fill, Mini.refs, Mini.ref1, Mini.backR, Option.map_some, Mini.unpD, Mini.bindL, Mini.bindT, Mini.itemsD, Mini.recM, Mini.isNon, Mini.wOut, Mini.outsOf, Mini.own, List.take, true_and, and_true, if_true, Bool.false_eq_true, if_false, at3_0, at3_1, at3_2, at2_0, at2_1, ix3_0, ix3_1, ix3_2, List.length_cons, List.length_nil, List.set_cons_zero, List.set_cons_succ, Nat.zero_add, Nat.reduceAdd, sem_fdivS, sem_mulS, sem_mod]
  refine ⟨by omega, ?_⟩
  refine rng_loop (fun i s => ∃ (oss : List (List Int)) (x3 x4 : Option D), s = [some (.int many), some (.lst (ties.map prD)), some (.lst (oss.map oL)), x3, x4, none, none, none] ∧ oss.length = i ∧ ∀ h : Nat, h < i → (oss.getD h []).Perm ((ties.filter fun p => decide (p.1 = (h : Int))).map (·.2))) ⟨[], none, none, rfl, rfl, fun h hh => by omega⟩ ?_ ?_
  · rintro i s hi ⟨oss, x3, x4, rfl, e1, e2⟩
    simp (maxSteps := 2000000) (disch := first | assumption | omega) only [wSs_nil, wS_set, wS_unp, wS_sidx, wS_smt, wS_ex, wS_ret, wS_ite, wS_pass, wE_cst, wE_glb, wE_var, wE_sv, wE_mv, wE_rf, wE_frz, wE_op, wEs_nil, wEs_cons, wE_and, wE_or, wE_ite, wE_call, wE_bm, wE_pop, wK_none, wK_some, wR_seq, wR_rng1, wR_rng2, wR_zip, oS_some, bS_bl, iS_int, Mini.get, Mini.put, Mini.clear, Mini.back, Mini.scal, sem_neg, sem_not, sem_isN, sem_notN, sem_addI, sem_sub, sem_lt, sem_le, sem_gt, sem_ge, sem_eq, sem_ne, sem_in, sem_ni, sem_ixL, sem_ixT, sem_ixS, sem_lenL, sem_lenT, sem_lenS, sem_abs, sem_max2, sem_min2, sem_tupL, sem_tupT, sem_listL, sem_listT, sem_sorted, sem_all, sem_intB, sem_intI, sem_isL, sem_mkL0, sem_mkL1, sem_mkL2, sem_mkL3, sem_mkT0, sem_mkT1, sem_mkT2, sem_mkT3, Mini.isLst, Mini.fill, Mini.refs, Mini.ref1, Mini.backR, Option.map_some, Mini.unpD, Mini.bindL, Mini.bindT, Mini.itemsD, Mini.recM, Mini.isNon, Mini.wOut, Mini.outsOf, Mini.own, List.take, true_and, and_true, if_true, Bool.false_eq_true, if_false, at3_0, at3_1, at3_2, at2_0, at2_1, ix3_0, ix3_1, ix3_2, List.length_cons, List.length_nil, List.set_cons_zero, List.set_cons_succ, Nat.zero_add, Nat.reduceAdd, sem_fdivS, sem_mulS, sem_mod]
    (rw [wSs_cons]; simp (maxSteps := 2000000) (disch := first | assumption | omega) only [wSs_nil, wS_set, wS_unp, wS_sidx, wS_smt, wS_ex, wS_ret, wS_ite, wS_pass, wE_cst, wE_glb, wE_var, wE_sv, wE_mv, wE_rf, wE_frz, wE_op, wEs_nil, wEs_cons, wE_and, wE_or, wE_ite, wE_call, wE_bm, wE_pop, wK_none, wK_some, wR_seq, wR_rng1, wR_rng2, wR_zip, oS_some, bS_bl, iS_int, Mini.get, Mini.put, Mini.clear, Mini.back, Mini.scal, sem_neg, sem_not, sem_isN, sem_notN, sem_addI, sem_sub, sem_lt, sem_le, sem_gt, sem_ge, sem_eq, sem_ne, sem_in, sem_ni, sem_ixL, sem_ixT, sem_ixS, sem_lenL, sem_lenT, sem_lenS, sem_abs, sem_max2, sem_min2, sem_tupL, sem_tupT, sem_listL, sem_listT, sem_sorted, sem_all, sem_intB, sem_intI, sem_isL, sem_mkL0, sem_mkL1, sem_mkL2, sem_mkL3, sem_mkT0, sem_mkT1, sem_mkT2, sem_mkT3, Mini.isLst, Mini.fill, Mini.refs, Mini.ref1, Mini.backR, Option.map_some, Mini.unpD, Mini.bindL, Mini.bindT, Mini.itemsD, Mini.recM, Mini.isNon, Mini.wOut, Mini.outsOf, Mini.own, List.take, true_and, and_true, if_true, Bool.false_eq_true, if_false, at3_0, at3_1, at3_2, at2_0, at2_1, ix3_0, ix3_1, ix3_2, List.length_cons, List.length_nil, List.set_cons_zero, List.set_cons_succ, Nat.zero_add, Nat.reduceAdd, sem_fdivS, sem_mulS, sem_mod])
    refine wE_comp ?_
    simp (maxSteps := 2000000) (disch := first | assumption | omega) only [wSs_nil, wS_set, wS_unp, wS_sidx, wS_smt, wS_ex, wS_ret, wS_ite, wS_pass, wE_cst, wE_glb, wE_var, wE_sv, wE_mv, wE_rf, wE_frz, wE_op, wEs_nil, wEs_cons, wE_and, wE_or, wE_ite, wE_call, wE_bm, wE_pop, wK_none, wK_some, wR_seq, wR_rng1, wR_rng2, wR_zip, oS_some, bS_bl, iS_int, Mini.get, Mini.put, Mini.clear, Mini.back, Mini.scal, sem_neg, sem_not, sem_isN, sem_notN, sem_addI, sem_sub, sem_lt, sem_le, sem_gt, sem_ge, sem_eq, sem_ne, sem_in, sem_ni, sem_ixL, sem_ixT, sem_ixS, sem_lenL, sem_lenT, sem_lenS, sem_abs, sem_max2, sem_min2, sem_tupL, sem_tupT, sem_listL, sem_listT, sem_sorted, sem_all, sem_intB, sem_intI, sem_isL, sem_mkL0, sem_mkL1, sem_mkL2, sem_mkL3, sem_mkT0, sem_mkT1, sem_mkT2, sem_mkT3, Mini.isLst, Mini.fill, Mini.refs, Mini.ref1, Mini.backR, Option.map_some, Mini.unpD, Mini.bindL, Mini.bindT, Mini.itemsD, Mini.recM, Mini.isNon, Mini.wOut, Mini.outsOf, Mini.own, List.take, true_and, and_true, if_true, Bool.false_eq_true, if_false, at3_0, at3_1, at3_2, at2_0, at2_1, ix3_0, ix3_1, ix3_2, List.length_cons, List.length_nil, List.set_cons_zero, List.set_cons_succ, Nat.zero_add, Nat.reduceAdd, sem_fdivS, sem_mulS, sem_mod]
    refine comp_fm ties prD (fun p => decide (p.1 = 0 + (i : Int))) (fun p => .int ((p.2 - (0 + (i : Int))) % many)) (by rw [limE]; omega) (fun p hp => ?_) ?_
    · simp (maxSteps := 2000000) (disch := first | assumption | omega) only [prD, eqD_int, wSs_nil, wS_set, wS_unp, wS_sidx, wS_smt, wS_ex, wS_ret, wS_ite, wS_pass, wE_cst, wE_glb, wE_var, wE_sv, wE_mv, wE_rf, wE_frz, wE_op, wEs_nil, wEs_cons, wE_and, wE_or, wE_ite, wE_call, wE_bm, wE_pop, wK_none, wK_some, wR_seq, wR_rng1, wR_rng2, wR_zip, oS_some, bS_bl, iS_int, Mini.get, Mini.put, Mini.clear, Mini.back, Mini.scal, sem_neg, sem_not, sem_isN, sem_notN, sem_addI, sem_sub, sem_lt, sem_le, sem_gt, sem_ge, sem_eq, sem_ne, sem_in, sem_ni, sem_ixL, sem_ixT, sem_ixS, sem_lenL, sem_lenT, sem_lenS, sem_abs, sem_max2, sem_min2, sem_tupL, sem_tupT, sem_listL, sem_listT, sem_sorted, sem_all, sem_intB, sem_intI, sem_isL, sem_mkL0, sem_mkL1, sem_mkL2, sem_mkL3, sem_mkT0, sem_mkT1, sem_mkT2, sem_mkT3, Mini.isLst, Mini.fill, Mini.refs, Mini.ref1, Mini.backR, Option.map_some, Mini.unpD, Mini.bindL, Mini.bindT, Mini.itemsD, Mini.recM, Mini.isNon, Mini.wOut, Mini.outsOf, Mini.own, List.take, true_and, and_true, if_true, Bool.false_eq_true, if_false, at3_0, at3_1, at3_2, at2_0, at2_1, ix3_0, ix3_1, ix3_2, List.length_cons, List.length_nil, List.set_cons_zero, List.set_cons_succ, Nat.zero_add, Nat.reduceAdd, sem_fdivS, sem_mulS, sem_mod]
      split <;> first | trivial | exact ⟨trivial, trivial⟩
    · simp (maxSteps := 2000000) (disch := first | assumption | omega) only [wSs_nil, wS_set, wS_unp, wS_sidx, wS_smt, wS_ex, wS_ret, wS_ite, wS_pass, wE_cst, wE_glb, wE_var, wE_sv, wE_mv, wE_rf, wE_frz, wE_op, wEs_nil, wEs_cons, wE_and, wE_or, wE_ite, wE_call, wE_bm, wE_pop, wK_none, wK_some, wR_seq, wR_rng1, wR_rng2, wR_zip, oS_some, bS_bl, iS_int, Mini.get, Mini.put, Mini.clear, Mini.back, Mini.scal, sem_neg, sem_not, sem_isN, sem_notN, sem_addI, sem_sub, sem_lt, sem_le, sem_gt, sem_ge, sem_eq, sem_ne, sem_in, sem_ni, sem_ixL, sem_ixT, sem_ixS, sem_lenL, sem_lenT, sem_lenS, sem_abs, sem_max2, sem_min2, sem_tupL, sem_tupT, sem_listL, sem_listT, sem_sorted, sem_all, sem_intB, sem_intI, sem_isL, sem_mkL0, sem_mkL1, sem_mkL2, sem_mkL3, sem_mkT0, sem_mkT1, sem_mkT2, sem_mkT3, Mini.isLst, Mini.fill, Mini.refs, Mini.ref1, Mini.backR, Option.map_some, Mini.unpD, Mini.bindL, Mini.bindT, Mini.itemsD, Mini.recM, Mini.isNon, Mini.wOut, Mini.outsOf, Mini.own, List.take, true_and, and_true, if_true, Bool.false_eq_true, if_false, at3_0, at3_1, at3_2, at2_0, at2_1, ix3_0, ix3_1, ix3_2, List.length_cons, List.length_nil, List.set_cons_zero, List.set_cons_succ, Nat.zero_add, Nat.reduceAdd, sem_fdivS, sem_mulS, sem_mod]
      generalize hX : ties.filter (fun p => decide (p.1 = 0 + (i : Int))) = X
      have hXl : X.length ≤ 20000 := by
        rw [← hX]
        exact Nat.le_trans (List.length_filter_le _ _) h3
      have e3 : X.map (fun p => D.int ((p.2 - (0 + (i : Int))) % many)) = (X.map fun p => (p.2 - (0 + (i : Int))) % many).map D.int := by
        rw [List.map_map]
        rfl
      rw [e3]
      simp (maxSteps := 2000000) (disch := first | assumption | omega) only [sortD_ints, wSs_nil, wS_set, wS_unp, wS_sidx, wS_smt, wS_ex, wS_ret, wS_ite, wS_pass, wE_cst, wE_glb, wE_var, wE_sv, wE_mv, wE_rf, wE_frz, wE_op, wEs_nil, wEs_cons, wE_and, wE_or, wE_ite, wE_call, wE_bm, wE_pop, wK_none, wK_some, wR_seq, wR_rng1, wR_rng2, wR_zip, oS_some, bS_bl, iS_int, Mini.get, Mini.put, Mini.clear, Mini.back, Mini.scal, sem_neg, sem_not, sem_isN, sem_notN, sem_addI, sem_sub, sem_lt, sem_le, sem_gt, sem_ge, sem_eq, sem_ne, sem_in, sem_ni, sem_ixL, sem_ixT, sem_ixS, sem_lenL, sem_lenT, sem_lenS, sem_abs, sem_max2, sem_min2, sem_tupL, sem_tupT, sem_listL, sem_listT, sem_sorted, sem_all, sem_intB, sem_intI, sem_isL, sem_mkL0, sem_mkL1, sem_mkL2, sem_mkL3, sem_mkT0, sem_mkT1, sem_mkT2, sem_mkT3, Mini.isLst, Mini.fill, Mini.refs, Mini.ref1, Mini.backR, Option.map_some, Mini.unpD, Mini.bindL, Mini.bindT, Mini.itemsD, Mini.recM, Mini.isNon, Mini.wOut, Mini.outsOf, Mini.own, List.take, true_and, and_true, if_true, Bool.false_eq_true, if_false, at3_0, at3_1, at3_2, at2_0, at2_1, ix3_0, ix3_1, ix3_2, List.length_cons, List.length_nil, List.set_cons_zero, List.set_cons_succ, Nat.zero_add, Nat.reduceAdd, sem_fdivS, sem_mulS, sem_mod]
      rw [wSs_cons]
      simp (maxSteps := 2000000) (disch := first | assumption | omega) only [wSs_nil, wS_set, wS_unp, wS_sidx, wS_smt, wS_ex, wS_ret, wS_ite, wS_pass, wE_cst, wE_glb, wE_var, wE_sv, wE_mv, wE_rf, wE_frz, wE_op, wEs_nil, wEs_cons, wE_and, wE_or, wE_ite, wE_call, wE_bm, wE_pop, wK_none, wK_some, wR_seq, wR_rng1, wR_rng2, wR_zip, oS_some, bS_bl, iS_int, Mini.get, Mini.put, Mini.clear, Mini.back, Mini.scal, sem_neg, sem_not, sem_isN, sem_notN, sem_addI, sem_sub, sem_lt, sem_le, sem_gt, sem_ge, sem_eq, sem_ne, sem_in, sem_ni, sem_ixL, sem_ixT, sem_ixS, sem_lenL, sem_lenT, sem_lenS, sem_abs, sem_max2, sem_min2, sem_tupL, sem_tupT, sem_listL, sem_listT, sem_sorted, sem_all, sem_intB, sem_intI, sem_isL, sem_mkL0, sem_mkL1, sem_mkL2, sem_mkL3, sem_mkT0, sem_mkT1, sem_mkT2, sem_mkT3, Mini.isLst, Mini.fill, Mini.refs, Mini.ref1, Mini.backR, Option.map_some, Mini.unpD, Mini.bindL, Mini.bindT, Mini.itemsD, Mini.recM, Mini.isNon, Mini.wOut, Mini.outsOf, Mini.own, List.take, true_and, and_true, if_true, Bool.false_eq_true, if_false, at3_0, at3_1, at3_2, at2_0, at2_1, ix3_0, ix3_1, ix3_2, List.length_cons, List.length_nil, List.set_cons_zero, List.set_cons_succ, Nat.zero_add, Nat.reduceAdd, sem_fdivS, sem_mulS, sem_mod]
      refine wE_comp ?_
      simp (maxSteps := 2000000) (disch := first | assumption | omega) only [wSs_nil, wS_set, wS_unp, wS_sidx, wS_smt, wS_ex, wS_ret, wS_ite, wS_pass, wE_cst, wE_glb, wE_var, wE_sv, wE_mv, wE_rf, wE_frz, wE_op, wEs_nil, wEs_cons, wE_and, wE_or, wE_ite, wE_call, wE_bm, wE_pop, wK_none, wK_some, wR_seq, wR_rng1, wR_rng2, wR_zip, oS_some, bS_bl, iS_int, Mini.get, Mini.put, Mini.clear, Mini.back, Mini.scal, sem_neg, sem_not, sem_isN, sem_notN, sem_addI, sem_sub, sem_lt, sem_le, sem_gt, sem_ge, sem_eq, sem_ne, sem_in, sem_ni, sem_ixL, sem_ixT, sem_ixS, sem_lenL, sem_lenT, sem_lenS, sem_abs, sem_max2, sem_min2, sem_tupL, sem_tupT, sem_listL, sem_listT, sem_sorted, sem_all, sem_intB, sem_intI, sem_isL, sem_mkL0, sem_mkL1, sem_mkL2, sem_mkL3, sem_mkT0, sem_mkT1, sem_mkT2, sem_mkT3, Mini.isLst, Mini.fill, Mini.refs, Mini.ref1, Mini.backR, Option.map_some, Mini.unpD, Mini.bindL, Mini.bindT, Mini.itemsD, Mini.recM, Mini.isNon, Mini.wOut, Mini.outsOf, Mini.own, List.take, true_and, and_true, if_true, Bool.false_eq_true, if_false, at3_0, at3_1, at3_2, at2_0, at2_1, ix3_0, ix3_1, ix3_2, List.length_cons, List.length_nil, List.set_cons_zero, List.set_cons_succ, Nat.zero_add, Nat.reduceAdd, sem_fdivS, sem_mulS, sem_mod]
      refine comp_map (isort leI _) D.int (fun st => .int ((0 + (i : Int) + st) % many)) (by rw [isort_len, List.length_map, limE]; omega) (fun st hst => ?_) ?_
      · simp (maxSteps := 2000000) (disch := first | assumption | omega) only [wSs_nil, wS_set, wS_unp, wS_sidx, wS_smt, wS_ex, wS_ret, wS_ite, wS_pass, wE_cst, wE_glb, wE_var, wE_sv, wE_mv, wE_rf, wE_frz, wE_op, wEs_nil, wEs_cons, wE_and, wE_or, wE_ite, wE_call, wE_bm, wE_pop, wK_none, wK_some, wR_seq, wR_rng1, wR_rng2, wR_zip, oS_some, bS_bl, iS_int, Mini.get, Mini.put, Mini.clear, Mini.back, Mini.scal, sem_neg, sem_not, sem_isN, sem_notN, sem_addI, sem_sub, sem_lt, sem_le, sem_gt, sem_ge, sem_eq, sem_ne, sem_in, sem_ni, sem_ixL, sem_ixT, sem_ixS, sem_lenL, sem_lenT, sem_lenS, sem_abs, sem_max2, sem_min2, sem_tupL, sem_tupT, sem_listL, sem_listT, sem_sorted, sem_all, sem_intB, sem_intI, sem_isL, sem_mkL0, sem_mkL1, sem_mkL2, sem_mkL3, sem_mkT0, sem_mkT1, sem_mkT2, sem_mkT3, Mini.isLst, Mini.fill, Mini.refs, Mini.ref1, Mini.backR, Option.map_some, Mini.unpD, Mini.bindL, Mini.bindT, Mini.itemsD, Mini.recM, Mini.isNon, Mini.wOut, Mini.outsOf, Mini.own, List.take, true_and, and_true, if_true, Bool.false_eq_true, if_false, at3_0, at3_1, at3_2, at2_0, at2_1, ix3_0, ix3_1, ix3_2, List.length_cons, List.length_nil, List.set_cons_zero, List.set_cons_succ, Nat.zero_add, Nat.reduceAdd, sem_fdivS, sem_mulS, sem_mod]
      · simp (maxSteps := 2000000) (disch := first | assumption | omega) only [wSs_nil, wS_set, wS_unp, wS_sidx, wS_smt, wS_ex, wS_ret, wS_ite, wS_pass, wE_cst, wE_glb, wE_var, wE_sv, wE_mv, wE_rf, wE_frz, wE_op, wEs_nil, wEs_cons, wE_and, wE_or, wE_ite, wE_call, wE_bm, wE_pop, wK_none, wK_some, wR_seq, wR_rng1, wR_rng2, wR_zip, oS_some, bS_bl, iS_int, Mini.get, Mini.put, Mini.clear, Mini.back, Mini.scal, sem_neg, sem_not, sem_isN, sem_notN, sem_addI, sem_sub, sem_lt, sem_le, sem_gt, sem_ge, sem_eq, sem_ne, sem_in, sem_ni, sem_ixL, sem_ixT, sem_ixS, sem_lenL, sem_lenT, sem_lenS, sem_abs, sem_max2, sem_min2, sem_tupL, sem_tupT, sem_listL, sem_listT, sem_sorted, sem_all, sem_intB, sem_intI, sem_isL, sem_mkL0, sem_mkL1, sem_mkL2, sem_mkL3, sem_mkT0, sem_mkT1, sem_mkT2, sem_mkT3, Mini.isLst, Mini.fill, Mini.refs, Mini.ref1, Mini.backR, Option.map_some, Mini.unpD, Mini.bindL, Mini.bindT, Mini.itemsD, Mini.recM, Mini.isNon, Mini.wOut, Mini.outsOf, Mini.own, List.take, true_and, and_true, if_true, Bool.false_eq_true, if_false, at3_0, at3_1, at3_2, at2_0, at2_1, ix3_0, ix3_1, ix3_2, List.length_cons, List.length_nil, List.set_cons_zero, List.set_cons_succ, Nat.zero_add, Nat.reduceAdd, sem_fdivS, sem_mulS, sem_mod]
        have e4 : ∀ q : List Int, D.lst (q.map fun st => D.int ((0 + (i : Int) + st) % many)) = oL (q.map fun st => (0 + (i : Int) + st) % many) := fun q => by
          unfold oL
          rw [List.map_map]
          rfl
        rw [e4, mop_app (by rw [List.length_map, limE]; omega)]
        simp (maxSteps := 2000000) (disch := first | assumption | omega) only [wSs_nil, wS_set, wS_unp, wS_sidx, wS_smt, wS_ex, wS_ret, wS_ite, wS_pass, wE_cst, wE_glb, wE_var, wE_sv, wE_mv, wE_rf, wE_frz, wE_op, wEs_nil, wEs_cons, wE_and, wE_or, wE_ite, wE_call, wE_bm, wE_pop, wK_none, wK_some, wR_seq, wR_rng1, wR_rng2, wR_zip, oS_some, bS_bl, iS_int, Mini.get, Mini.put, Mini.clear, Mini.back, Mini.scal, sem_neg, sem_not, sem_isN, sem_notN, sem_addI, sem_sub, sem_lt, sem_le, sem_gt, sem_ge, sem_eq, sem_ne, sem_in, sem_ni, sem_ixL, sem_ixT, sem_ixS, sem_lenL, sem_lenT, sem_lenS, sem_abs, sem_max2, sem_min2, sem_tupL, sem_tupT, sem_listL, sem_listT, sem_sorted, sem_all, sem_intB, sem_intI, sem_isL, sem_mkL0, sem_mkL1, sem_mkL2, sem_mkL3, sem_mkT0, sem_mkT1, sem_mkT2, sem_mkT3, Mini.isLst, Mini.fill, Mini.refs, Mini.ref1, Mini.backR, Option.map_some, Mini.unpD, Mini.bindL, Mini.bindT, Mini.itemsD, Mini.recM, Mini.isNon, Mini.wOut, Mini.outsOf, Mini.own, List.take, true_and, and_true, if_true, Bool.false_eq_true, if_false, at3_0, at3_1, at3_2, at2_0, at2_1, ix3_0, ix3_1, ix3_2, List.length_cons, List.length_nil, List.set_cons_zero, List.set_cons_succ, Nat.zero_add, Nat.reduceAdd, sem_fdivS, sem_mulS, sem_mod]
        have fin : ∀ q : List Int, q = (isort leI (X.map fun p => (p.2 - (0 + (i : Int))) % many)).map (fun st => (0 + (i : Int) + st) % many) → q.Perm (X.map (·.2)) := fun q hq => by
          subst hq
          refine ((isort_prm leI _).map _).trans ?_
          rw [List.map_map]
          have : X.map ((fun st => (0 + (i : Int) + st) % many) ∘ fun p => (p.2 - (0 + (i : Int))) % many) = X.map (·.2) := by
            refine List.map_congr_left fun p hp => ?_
            rw [← hX] at hp
            have hr := (hB.2.1 p (List.mem_filter.mp hp).1).2
            exact mod_back hr.1 hr.2
          rw [this]
        have goal : ∀ q : List Int, q.Perm (X.map (·.2)) → ∃ (oss' : List (List Int)) (x3' x4' : Option D), ([some (.int many), some (.lst (ties.map prD)), some (.lst (oss.map oL ++ [oL q])), some (.int (0 + (i : Int))), some (.lst ((isort leI (X.map fun p => (p.2 - (0 + (i : Int))) % many)).map .int)), none, none, none] : Sl) = [some (.int many), some (.lst (ties.map prD)), some (.lst (oss'.map oL)), x3', x4', none, none, none] ∧ oss'.length = i + 1 ∧ ∀ h : Nat, h < i + 1 → (oss'.getD h []).Perm ((ties.filter fun p => decide (p.1 = (h : Int))).map (·.2)) := fun q hq => by
          refine ⟨oss ++ [q], _, _, by rw [List.map_append]; rfl, by simp [e1], fun h hh => ?_⟩
          rw [List.getD_eq_getElem?_getD]
          by_cases hlt : h < i
          · rw [List.getElem?_append_left (by omega), ← List.getD_eq_getElem?_getD]
            exact e2 h hlt
          · have : h = oss.length := by omega
            subst this
            rw [List.getElem?_append_right (Nat.le_refl _), Nat.sub_self]
            show q.Perm _
            rw [← e1] at hX
            rw [Int.zero_add] at hX
            rw [hX]
            exact hq
        first
          | exact goal _ (fin _ rfl)
          | (rw [wSs_nil]; exact goal _ (fin _ rfl))
  · rintro s ⟨oss, x3, x4, rfl, e1, e2⟩
    (rw [wSs_cons]; simp (maxSteps := 2000000) (disch := first | assumption | omega) only [wSs_nil, wS_set, wS_unp, wS_sidx, wS_smt, wS_ex, wS_ret, wS_ite, wS_pass, wE_cst, wE_glb, wE_var, wE_sv, wE_mv, wE_rf, wE_frz, wE_op, wEs_nil, wEs_cons, wE_and, wE_or, wE_ite, wE_call, wE_bm, wE_pop, wK_none, wK_some, wR_seq, wR_rng1, wR_rng2, wR_zip, oS_some, bS_bl, iS_int, Mini.get, Mini.put, Mini.clear, Mini.back, Mini.scal, sem_neg, sem_not, sem_isN, sem_notN, sem_addI, sem_sub, sem_lt, sem_le, sem_gt, sem_ge, sem_eq, sem_ne, sem_in, sem_ni, sem_ixL, sem_ixT, sem_ixS, sem_lenL, sem_lenT, sem_lenS, sem_abs, sem_max2, sem_min2, sem_tupL, sem_tupT, sem_listL, sem_listT, sem_sorted, sem_all, sem_intB, sem_intI, sem_isL, sem_mkL0, sem_mkL1, sem_mkL2, sem_mkL3, sem_mkT0, sem_mkT1, sem_mkT2, sem_mkT3, Mini.isLst, Mini.fill, Mini.refs, Mini.ref1, Mini.backR, Option.map_some, Mini.unpD, Mini.bindL, Mini.bindT, Mini.itemsD, Mini.recM, Mini.isNon, Mini.wOut, Mini.outsOf, Mini.own, List.take, true_and, and_true, if_true, Bool.false_eq_true, if_false, at3_0, at3_1, at3_2, at2_0, at2_1, ix3_0, ix3_1, ix3_2, List.length_cons, List.length_nil, List.set_cons_zero, List.set_cons_succ, Nat.zero_add, Nat.reduceAdd, sem_fdivS, sem_mulS, sem_mod])
    exact ⟨oss, rfl, e1, fun h hh => e2 h (by omega)⟩
theorem homes_ok (n : Nat) (a b c many letters : Int) (h1 : 1 ≤ many) (h2 : many ≤ 32) (h3 : 0 ≤ letters) (h4 : letters ≤ 100) : wC (callF fds (n + 2) 13 [pot a b c, .int many, .int letters]) fun d os => ∃ (hs : List Int) (a b c : Int), d = .tup (hs.map .int) ∧ hs.length ≤ 100 ∧ os = [some (pot a b c), none, none] := by
  refine wC_call (fd := f13) rfl rfl ?_
  show wSs (callF fds (n + 1)) f13.body [some (pot a b c), some (.int many), some (.int letters), none, none] _ _
  simp only [f13]
  (rw [wSs_cons]; simp (maxSteps := 2000000) (disch := first | assumption | omega) only [wSs_nil, wS_set, wS_unp, wS_sidx, wS_smt, wS_ex, wS_ret, wS_ite, wS_pass, wE_cst, wE_glb, wE_var, wE_sv, wE_mv, wE_rf, wE_frz, wE_op, wEs_nil, wEs_cons, wE_and, wE_or, wE_ite, wE_call, wE_bm, wE_pop, wK_none, wK_some, wR_seq, wR_rng1, wR_rng2, wR_zip, oS_some, bS_bl, iS_int, Mini.get, Mini.put, Mini.clear, Mini.back, Mini.scal, sem_neg, sem_not, sem_isN, sem_notN, sem_addI, sem_sub, sem_lt, sem_le, sem_gt, sem_ge, sem_eq, sem_ne, sem_in, sem_ni, sem_ixL, sem_ixT, sem_ixS, sem_lenL, sem_lenT, sem_lenS, sem_abs, sem_max2, sem_min2, sem_tupL, sem_tupT, sem_listL, sem_listT, sem_sorted, sem_all, sem_intB, sem_intI, sem_isL, sem_mkL0, sem_mkL1, sem_mkL2, sem_mkL3, sem_mkT0, sem_mkT1, sem_mkT2, sem_mkT3, Mini.isLst, Mini.fill, Mini.refs, Mini.ref1, Mini.backR, Option.map_some, Mini.unpD, Mini.bindL, Mini.bindT, Mini.itemsD, Mini.recM, Mini.isNon, Mini.wOut, Mini.outsOf, Mini.own, List.take, true_and, and_true, if_true, Bool.false_eq_true, if_false, at3_0, at3_1, at3_2, at2_0, at2_1, ix3_0, ix3_1, ix3_2, List.length_cons, List.length_nil, List.set_cons_zero, List.set_cons_succ, Nat.zero_add, Nat.reduceAdd, sem_fdivS, sem_mulS, sem_mod])
  refine wC_mono (take_ok n a b c 2 (by omega) (by omega)) ?_
  rintro d os ⟨r, a, b, c, rfl, r1, r2, rfl⟩
  have hr : ∃ v : Int, atD [.int 32, .int 3] r = some (.int v) ∧ 3 ≤ v ∧ v ≤ 32 := by
    have : r = 0 ∨ r = 1 := by omega
    rcases this with rfl | rfl
    · exact ⟨32, at2_0, by omega, by omega⟩
    · exact ⟨3, at2_1, by omega, by omega⟩
  obtain ⟨v, hv, v1, v2⟩ := hr
  simp (maxSteps := 2000000) (disch := first | assumption | omega) only [hv, wSs_nil, wS_set, wS_unp, wS_sidx, wS_smt, wS_ex, wS_ret, wS_ite, wS_pass, wE_cst, wE_glb, wE_var, wE_sv, wE_mv, wE_rf, wE_frz, wE_op, wEs_nil, wEs_cons, wE_and, wE_or, wE_ite, wE_call, wE_bm, wE_pop, wK_none, wK_some, wR_seq, wR_rng1, wR_rng2, wR_zip, oS_some, bS_bl, iS_int, Mini.get, Mini.put, Mini.clear, Mini.back, Mini.scal, sem_neg, sem_not, sem_isN, sem_notN, sem_addI, sem_sub, sem_lt, sem_le, sem_gt, sem_ge, sem_eq, sem_ne, sem_in, sem_ni, sem_ixL, sem_ixT, sem_ixS, sem_lenL, sem_lenT, sem_lenS, sem_abs, sem_max2, sem_min2, sem_tupL, sem_tupT, sem_listL, sem_listT, sem_sorted, sem_all, sem_intB, sem_intI, sem_isL, sem_mkL0, sem_mkL1, sem_mkL2, sem_mkL3, sem_mkT0, sem_mkT1, sem_mkT2, sem_mkT3, Mini.isLst, Mini.fill, Mini.refs, Mini.ref1, Mini.backR, Option.map_some, Mini.unpD, Mini.bindL, Mini.bindT, Mini.itemsD, Mini.recM, Mini.isNon, Mini.wOut, Mini.outsOf, Mini.own, List.take, true_and, and_true, if_true, Bool.false_eq_true, if_false, at3_0, at3_1, at3_2, at2_0, at2_1, ix3_0, ix3_1, ix3_2, List.length_cons, List.length_nil, List.set_cons_zero, List.set_cons_succ, Nat.zero_add, Nat.reduceAdd, sem_fdivS, sem_mulS, sem_mod]
  have hs : 1 ≤ (if v < many then v else many) ∧ (if v < many then v else many) ≤ 32 := by split <;> omega
  generalize (if v < many then v else many) = span at hs
  rw [wSs_cons]
  simp (maxSteps := 2000000) (disch := first | assumption | omega) only [wSs_nil, wS_set, wS_unp, wS_sidx, wS_smt, wS_ex, wS_ret, wS_ite, wS_pass, wE_cst, wE_glb, wE_var, wE_sv, wE_mv, wE_rf, wE_frz, wE_op, wEs_nil, wEs_cons, wE_and, wE_or, wE_ite, wE_call, wE_bm, wE_pop, wK_none, wK_some, wR_seq, wR_rng1, wR_rng2, wR_zip, oS_some, bS_bl, iS_int, Mini.get, Mini.put, Mini.clear, Mini.back, Mini.scal, sem_neg, sem_not, sem_isN, sem_notN, sem_addI, sem_sub, sem_lt, sem_le, sem_gt, sem_ge, sem_eq, sem_ne, sem_in, sem_ni, sem_ixL, sem_ixT, sem_ixS, sem_lenL, sem_lenT, sem_lenS, sem_abs, sem_max2, sem_min2, sem_tupL, sem_tupT, sem_listL, sem_listT, sem_sorted, sem_all, sem_intB, sem_intI, sem_isL, sem_mkL0, sem_mkL1, sem_mkL2, sem_mkL3, sem_mkT0, sem_mkT1, sem_mkT2, sem_mkT3, Mini.isLst, Mini.fill, Mini.refs, Mini.ref1, Mini.backR, Option.map_some, Mini.unpD, Mini.bindL, Mini.bindT, Mini.itemsD, Mini.recM, Mini.isNon, Mini.wOut, Mini.outsOf, Mini.own, List.take, true_and, and_true, if_true, Bool.false_eq_true, if_false, at3_0, at3_1, at3_2, at2_0, at2_1, ix3_0, ix3_1, ix3_2, List.length_cons, List.length_nil, List.set_cons_zero, List.set_cons_succ, Nat.zero_add, Nat.reduceAdd, sem_fdivS, sem_mulS, sem_mod]
  refine wE_comp ?_
  simp (maxSteps := 2000000) (disch := first | assumption | omega) only [wSs_nil, wS_set, wS_unp, wS_sidx, wS_smt, wS_ex, wS_ret, wS_ite, wS_pass, wE_cst, wE_glb, wE_var, wE_sv, wE_mv, wE_rf, wE_frz, wE_op, wEs_nil, wEs_cons, wE_and, wE_or, wE_ite, wE_call, wE_bm, wE_pop, wK_none, wK_some, wR_seq, wR_rng1, wR_rng2, wR_zip, oS_some, bS_bl, iS_int, Mini.get, Mini.put, Mini.clear, Mini.back, Mini.scal, sem_neg, sem_not, sem_isN, sem_notN, sem_addI, sem_sub, sem_lt, sem_le, sem_gt, sem_ge, sem_eq, sem_ne, sem_in, sem_ni, sem_ixL, sem_ixT, sem_ixS, sem_lenL, sem_lenT, sem_lenS, sem_abs, sem_max2, sem_min2, sem_tupL, sem_tupT, sem_listL, sem_listT, sem_sorted, sem_all, sem_intB, sem_intI, sem_isL, sem_mkL0, sem_mkL1, sem_mkL2, sem_mkL3, sem_mkT0, sem_mkT1, sem_mkT2, sem_mkT3, Mini.isLst, Mini.fill, Mini.refs, Mini.ref1, Mini.backR, Option.map_some, Mini.unpD, Mini.bindL, Mini.bindT, Mini.itemsD, Mini.recM, Mini.isNon, Mini.wOut, Mini.outsOf, Mini.own, List.take, true_and, and_true, if_true, Bool.false_eq_true, if_false, at3_0, at3_1, at3_2, at2_0, at2_1, ix3_0, ix3_1, ix3_2, List.length_cons, List.length_nil, List.set_cons_zero, List.set_cons_succ, Nat.zero_add, Nat.reduceAdd, sem_fdivS, sem_mulS, sem_mod]
  refine ⟨by omega, ?_⟩
  refine comp_rng (fun i acc s => ∃ (a b c : Int) (hs : List Int), acc = hs.map .int ∧ hs.length = i ∧ s = [some (pot a b c), some (.int many), some (.int letters), some (.int span), none]) ⟨a, b, c, [], rfl, rfl, rfl⟩ ?_ ?_
  · rintro i acc s hi ⟨a, b, c, hs, rfl, e1, rfl⟩
    simp (maxSteps := 2000000) (disch := first | assumption | omega) only [wSs_nil, wS_set, wS_unp, wS_sidx, wS_smt, wS_ex, wS_ret, wS_ite, wS_pass, wE_cst, wE_glb, wE_var, wE_sv, wE_mv, wE_rf, wE_frz, wE_op, wEs_nil, wEs_cons, wE_and, wE_or, wE_ite, wE_call, wE_bm, wE_pop, wK_none, wK_some, wR_seq, wR_rng1, wR_rng2, wR_zip, oS_some, bS_bl, iS_int, Mini.get, Mini.put, Mini.clear, Mini.back, Mini.scal, sem_neg, sem_not, sem_isN, sem_notN, sem_addI, sem_sub, sem_lt, sem_le, sem_gt, sem_ge, sem_eq, sem_ne, sem_in, sem_ni, sem_ixL, sem_ixT, sem_ixS, sem_lenL, sem_lenT, sem_lenS, sem_abs, sem_max2, sem_min2, sem_tupL, sem_tupT, sem_listL, sem_listT, sem_sorted, sem_all, sem_intB, sem_intI, sem_isL, sem_mkL0, sem_mkL1, sem_mkL2, sem_mkL3, sem_mkT0, sem_mkT1, sem_mkT2, sem_mkT3, Mini.isLst, Mini.fill, Mini.refs, Mini.ref1, Mini.backR, Option.map_some, Mini.unpD, Mini.bindL, Mini.bindT, Mini.itemsD, Mini.recM, Mini.isNon, Mini.wOut, Mini.outsOf, Mini.own, List.take, true_and, and_true, if_true, Bool.false_eq_true, if_false, at3_0, at3_1, at3_2, at2_0, at2_1, ix3_0, ix3_1, ix3_2, List.length_cons, List.length_nil, List.set_cons_zero, List.set_cons_succ, Nat.zero_add, Nat.reduceAdd, sem_fdivS, sem_mulS, sem_mod]
    refine wC_mono (take_ok n a b c span (by omega) (by omega)) ?_
    rintro d os ⟨x, a, b, c, rfl, x1, x2, rfl⟩
    simp (maxSteps := 2000000) (disch := first | assumption | omega) only [wSs_nil, wS_set, wS_unp, wS_sidx, wS_smt, wS_ex, wS_ret, wS_ite, wS_pass, wE_cst, wE_glb, wE_var, wE_sv, wE_mv, wE_rf, wE_frz, wE_op, wEs_nil, wEs_cons, wE_and, wE_or, wE_ite, wE_call, wE_bm, wE_pop, wK_none, wK_some, wR_seq, wR_rng1, wR_rng2, wR_zip, oS_some, bS_bl, iS_int, Mini.get, Mini.put, Mini.clear, Mini.back, Mini.scal, sem_neg, sem_not, sem_isN, sem_notN, sem_addI, sem_sub, sem_lt, sem_le, sem_gt, sem_ge, sem_eq, sem_ne, sem_in, sem_ni, sem_ixL, sem_ixT, sem_ixS, sem_lenL, sem_lenT, sem_lenS, sem_abs, sem_max2, sem_min2, sem_tupL, sem_tupT, sem_listL, sem_listT, sem_sorted, sem_all, sem_intB, sem_intI, sem_isL, sem_mkL0, sem_mkL1, sem_mkL2, sem_mkL3, sem_mkT0, sem_mkT1, sem_mkT2, sem_mkT3, Mini.isLst, Mini.fill, Mini.refs, Mini.ref1, Mini.backR, Option.map_some, Mini.unpD, Mini.bindL, Mini.bindT, Mini.itemsD, Mini.recM, Mini.isNon, Mini.wOut, Mini.outsOf, Mini.own, List.take, true_and, and_true, if_true, Bool.false_eq_true, if_false, at3_0, at3_1, at3_2, at2_0, at2_1, ix3_0, ix3_1, ix3_2, List.length_cons, List.length_nil, List.set_cons_zero, List.set_cons_succ, Nat.zero_add, Nat.reduceAdd, sem_fdivS, sem_mulS, sem_mod]
    exact ⟨a, b, c, hs ++ [x], by rw [List.map_append]; rfl, by simp [e1], rfl⟩
  · rintro rr s ⟨a, b, c, hs, rfl, e1, rfl⟩
    refine ⟨by rw [List.length_map, limE]; omega, ?_⟩
    simp (maxSteps := 2000000) (disch := first | assumption | omega) only [wSs_nil, wS_set, wS_unp, wS_sidx, wS_smt, wS_ex, wS_ret, wS_ite, wS_pass, wE_cst, wE_glb, wE_var, wE_sv, wE_mv, wE_rf, wE_frz, wE_op, wEs_nil, wEs_cons, wE_and, wE_or, wE_ite, wE_call, wE_bm, wE_pop, wK_none, wK_some, wR_seq, wR_rng1, wR_rng2, wR_zip, oS_some, bS_bl, iS_int, Mini.get, Mini.put, Mini.clear, Mini.back, Mini.scal, sem_neg, sem_not, sem_isN, sem_notN, sem_addI, sem_sub, sem_lt, sem_le, sem_gt, sem_ge, sem_eq, sem_ne, sem_in, sem_ni, sem_ixL, sem_ixT, sem_ixS, sem_lenL, sem_lenT, sem_lenS, sem_abs, sem_max2, sem_min2, sem_tupL, sem_tupT, sem_listL, sem_listT, sem_sorted, sem_all, sem_intB, sem_intI, sem_isL, sem_mkL0, sem_mkL1, sem_mkL2, sem_mkL3, sem_mkT0, sem_mkT1, sem_mkT2, sem_mkT3, Mini.isLst, Mini.fill, Mini.refs, Mini.ref1, Mini.backR, Option.map_some, Mini.unpD, Mini.bindL, Mini.bindT, Mini.itemsD, Mini.recM, Mini.isNon, Mini.wOut, Mini.outsOf, Mini.own, List.take, true_and, and_true, if_true, Bool.false_eq_true, if_false, at3_0, at3_1, at3_2, at2_0, at2_1, ix3_0, ix3_1, ix3_2, List.length_cons, List.length_nil, List.set_cons_zero, List.set_cons_succ, Nat.zero_add, Nat.reduceAdd, sem_fdivS, sem_mulS, sem_mod]
    exact ⟨hs, a, b, c, rfl, by omega, rfl⟩
end Lk51

namespace Lk51
open Mini
theorem at_oss {oss : List (List Int)} {x : Int} (h0 : 0 ≤ x) (h : x < oss.length) : atD (oss.map oL) x = some (.lst ((oss.getD x.toNat []).map .int)) := by
  refine atD_int h0 ?_
  rw [List.getElem?_map, List.getD_eq_getElem?_getD]
  have : x.toNat < oss.length := by omega
  rw [List.getElem?_eq_getElem this]
  rfl
theorem head_opt {Y : List Int} : atD (Y.map .int ++ [.non]) 0 = some (oD Y.head?) := by
  cases Y with
  | nil => rfl
  | cons y Y => exact atD_int (by omega) rfl
def outdeg (ties : List (Int × Int)) (g : Int) : Nat := ties.countP fun p => decide (p.1 = g)
theorem len_out {many : Int} {ties : List (Int × Int)} {oss : List (List Int)} (h : OutsOk many ties oss) {g : Int} (h0 : 0 ≤ g) (h1 : g < many) : (oss.getD g.toNat []).length = outdeg ties g := by
  have := (h.2 g.toNat (by omega)).length_eq
  rw [this, List.length_map]
  unfold outdeg
  rw [List.countP_eq_length_filter]
  have e : (g.toNat : Int) = g := by omega
  rw [e]
def cnt (st : List (Option Int)) (g : Int) : Nat := st.countP fun o => decide (o = some g)
def StOk (many : Int) (ties : List (Int × Int)) (waits : Bool) (st : List (Option Int)) : Prop := (∀ v, some v ∈ st → 0 ≤ v ∧ v < many) ∧ (waits = false → ∀ g, cnt st g ≤ outdeg ties g)
theorem StOk.snoc {many : Int} {ties : List (Int × Int)} {waits : Bool} {st : List (Option Int)} (h : StOk many ties waits st) {o : Option Int} (h1 : ∀ v, o = some v → (0 ≤ v ∧ v < many) ∧ (waits = false → cnt st v < outdeg ties v)) : StOk many ties waits (st ++ [o]) := by
  refine ⟨fun v hv => ?_, fun hw g => ?_⟩
  · rcases List.mem_append.mp hv with hv | hv
    · exact h.1 v hv
    · exact (h1 v (List.mem_singleton.mp hv).symm).1
  · unfold cnt
    rw [List.countP_append, List.countP_singleton]
    have := h.2 hw g
    unfold cnt at this
    split
    · rename_i e
      have e := of_decide_eq_true e
      have := (h1 g e).2 hw
      unfold cnt at this
      omega
    · omega
theorem app_o {l : List (Option Int)} {o : Option Int} (h : l.length < 1000000) : mopD .append (l.map oD) [oD o] = some ((l ++ [o]).map oD) := by
  rw [mop_app (by rw [List.length_map]; exact h), List.map_append]
  rfl
theorem begun_ok (n : Nat) (a b c many : Int) (ties : List (Int × Int)) (oss : List (List Int)) (hs : List Int) (waits : Bool) (h1 : 1 ≤ many) (h2 : many ≤ 32) (hO : OutsOk many ties oss) (h3 : hs.length ≤ 100) :
    wC (callF fds (n + 2) 14 [pot a b c, .lst (oss.map oL), .tup (hs.map .int), .bl waits]) fun d os => ∃ (st : List (Option Int)) (a b c : Int), d = .tup (st.map oD) ∧ st.length = hs.length ∧ StOk many ties waits st ∧ os = [some (pot a b c), none, none, none] := by
  refine wC_call (fd := f14) rfl rfl ?_
  show wSs (callF fds (n + 1)) f14.body [some (pot a b c), some (.lst (oss.map oL)), some (.tup (hs.map .int)), some (.bl waits), none, none, none, none, none, none, none] _ _
  have hol : (oss.length : Int) = many := by
    rw [hO.1]
    omega
  have hmul : ∀ k : Int, sem .mulI [.int many, .int k] = some (.int (many * k)) := fun k => sem_mulS (.inl ⟨by omega, by omega⟩)
  simp only [f14]
  (rw [wSs_cons]; simp (maxSteps := 2000000) (disch := first | assumption | omega) only [List.length_map, wSs_nil, wS_set, wS_unp, wS_sidx, wS_smt, wS_ex, wS_ret, wS_ite, wS_pass, wE_cst, wE_glb, wE_var, wE_sv, wE_mv, wE_rf, wE_frz, wE_op, wEs_nil, wEs_cons, wE_and, wE_or, wE_ite, wE_call, wE_bm, wE_pop, wK_none, wK_some, wR_seq, wR_rng1, wR_rng2, wR_zip, oS_some, bS_bl, iS_int, Mini.get, Mini.put, Mini.clear, Mini.back, Mini.scal, sem_neg, sem_not, sem_isN, sem_notN, sem_addI, sem_sub, sem_lt, sem_le, sem_gt, sem_ge, sem_eq, sem_ne, sem_in, sem_ni, sem_ixL, sem_ixT, sem_ixS, sem_lenL, sem_lenT, sem_lenS, sem_abs, sem_max2, sem_min2, sem_tupL, sem_tupT, sem_listL, sem_listT, sem_sorted, sem_all, sem_intB, sem_intI, sem_isL, sem_mkL0, sem_mkL1, sem_mkL2, sem_mkL3, sem_mkT0, sem_mkT1, sem_mkT2, sem_mkT3, Mini.isLst, Mini.fill, Mini.refs, Mini.ref1, Mini.backR, Option.map_some, Mini.unpD, Mini.bindL, Mini.bindT, Mini.itemsD, Mini.recM, Mini.isNon, Mini.wOut, Mini.outsOf, Mini.own, List.take, true_and, and_true, if_true, Bool.false_eq_true, if_false, at3_0, at3_1, at3_2, at2_0, at2_1, ix3_0, ix3_1, ix3_2, List.length_cons, List.length_nil, List.set_cons_zero, List.set_cons_succ, Nat.zero_add, Nat.reduceAdd, sem_fdivS, sem_mulS, sem_mod])
  refine wC_mono (take_ok n a b c 2 (by omega) (by omega)) ?_
  rintro d os ⟨r, a, b, c, rfl, r1, r2, rfl⟩
  have hr : ∃ v : Int, atD [.int 32, .int 4] r = some (.int v) ∧ 3 ≤ v ∧ v ≤ 32 := by
    have : r = 0 ∨ r = 1 := by omega
    rcases this with rfl | rfl
    · exact ⟨32, at2_0, by omega, by omega⟩
    · exact ⟨4, at2_1, by omega, by omega⟩
  obtain ⟨v, hv, v1, v2⟩ := hr
  simp (maxSteps := 2000000) (disch := first | assumption | omega) only [hv, hol, wSs_nil, wS_set, wS_unp, wS_sidx, wS_smt, wS_ex, wS_ret, wS_ite, wS_pass, wE_cst, wE_glb, wE_var, wE_sv, wE_mv, wE_rf, wE_frz, wE_op, wEs_nil, wEs_cons, wE_and, wE_or, wE_ite, wE_call, wE_bm, wE_pop, wK_none, wK_some, wR_seq, wR_rng1, wR_rng2, wR_zip, oS_some, bS_bl, iS_int, Mini.get, Mini.put, Mini.clear, Mini.back, Mini.scal, sem_neg, sem_not, sem_isN, sem_notN, sem_addI, sem_sub, sem_lt, sem_le, sem_gt, sem_ge, sem_eq, sem_ne, sem_in, sem_ni, sem_ixL, sem_ixT, sem_ixS, sem_lenL, sem_lenT, sem_lenS, sem_abs, sem_max2, sem_min2, sem_tupL, sem_tupT, sem_listL, sem_listT, sem_sorted, sem_all, sem_intB, sem_intI, sem_isL, sem_mkL0, sem_mkL1, sem_mkL2, sem_mkL3, sem_mkT0, sem_mkT1, sem_mkT2, sem_mkT3, Mini.isLst, Mini.fill, Mini.refs, Mini.ref1, Mini.backR, Option.map_some, Mini.unpD, Mini.bindL, Mini.bindT, Mini.itemsD, Mini.recM, Mini.isNon, Mini.wOut, Mini.outsOf, Mini.own, List.take, true_and, and_true, if_true, Bool.false_eq_true, if_false, at3_0, at3_1, at3_2, at2_0, at2_1, ix3_0, ix3_1, ix3_2, List.length_cons, List.length_nil, List.set_cons_zero, List.set_cons_succ, Nat.zero_add, Nat.reduceAdd, sem_fdivS, sem_mulS, sem_mod]
  have hsp : 1 ≤ (if v < many then v else many) ∧ (if v < many then v else many) ≤ 32 := by split <;> omega
  generalize (if v < many then v else many) = span at hsp
  (rw [wSs_cons]; simp (maxSteps := 2000000) (disch := first | assumption | omega) only [wSs_nil, wS_set, wS_unp, wS_sidx, wS_smt, wS_ex, wS_ret, wS_ite, wS_pass, wE_cst, wE_glb, wE_var, wE_sv, wE_mv, wE_rf, wE_frz, wE_op, wEs_nil, wEs_cons, wE_and, wE_or, wE_ite, wE_call, wE_bm, wE_pop, wK_none, wK_some, wR_seq, wR_rng1, wR_rng2, wR_zip, oS_some, bS_bl, iS_int, Mini.get, Mini.put, Mini.clear, Mini.back, Mini.scal, sem_neg, sem_not, sem_isN, sem_notN, sem_addI, sem_sub, sem_lt, sem_le, sem_gt, sem_ge, sem_eq, sem_ne, sem_in, sem_ni, sem_ixL, sem_ixT, sem_ixS, sem_lenL, sem_lenT, sem_lenS, sem_abs, sem_max2, sem_min2, sem_tupL, sem_tupT, sem_listL, sem_listT, sem_sorted, sem_all, sem_intB, sem_intI, sem_isL, sem_mkL0, sem_mkL1, sem_mkL2, sem_mkL3, sem_mkT0, sem_mkT1, sem_mkT2, sem_mkT3, Mini.isLst, Mini.fill, Mini.refs, Mini.ref1, Mini.backR, Option.map_some, Mini.unpD, Mini.bindL, Mini.bindT, Mini.itemsD, Mini.recM, Mini.isNon, Mini.wOut, Mini.outsOf, Mini.own, List.take, true_and, and_true, if_true, Bool.false_eq_true, if_false, at3_0, at3_1, at3_2, at2_0, at2_1, ix3_0, ix3_1, ix3_2, List.length_cons, List.length_nil, List.set_cons_zero, List.set_cons_succ, Nat.zero_add, Nat.reduceAdd, sem_fdivS, sem_mulS, sem_mod])
  rw [wSs_cons]
  refine wS_for ?_
  simp (maxSteps := 2000000) (disch := first | assumption | omega) only [wSs_nil, wS_set, wS_unp, wS_sidx, wS_smt, wS_ex, wS_ret, wS_ite, wS_pass, wE_cst, wE_glb, wE_var, wE_sv, wE_mv, wE_rf, wE_frz, wE_op, wEs_nil, wEs_cons, wE_and, wE_or, wE_ite, wE_call, wE_bm, wE_pop, wK_none, wK_some, wR_seq, wR_rng1, wR_rng2, wR_zip, oS_some, bS_bl, iS_int, Mini.get, Mini.put, Mini.clear, Mini.back, Mini.scal, sem_neg, sem_not, sem_isN, sem_notN, sem_addI, sem_sub, sem_lt, sem_le, sem_gt, sem_ge, sem_eq, sem_ne, sem_in, sem_ni, sem_ixL, sem_ixT, sem_ixS, sem_lenL, sem_lenT, sem_lenS, sem_abs, sem_max2, sem_min2, sem_tupL, sem_tupT, sem_listL, sem_listT, sem_sorted, sem_all, sem_intB, sem_intI, sem_isL, sem_mkL0, sem_mkL1, sem_mkL2, sem_mkL3, sem_mkT0, sem_mkT1, sem_mkT2, sem_mkT3, Mini.isLst, Mini.fill, Mini.refs, Mini.ref1, Mini.backR, Option.map_some, Mini.unpD, Mini.bindL, Mini.bindT, Mini.itemsD, Mini.recM, Mini.isNon, Mini.wOut, Mini.outsOf, Mini.own, List.take, true_and, and_true, if_true, Bool.false_eq_true, if_false, at3_0, at3_1, at3_2, at2_0, at2_1, ix3_0, ix3_1, ix3_2, List.length_cons, List.length_nil, List.set_cons_zero, List.set_cons_succ, Nat.zero_add, Nat.reduceAdd, sem_fdivS, sem_mulS, sem_mod]
  refine seq_loop (fun rest s => ∃ (a b c : Int) (st : List (Option Int)) (rs : List Int) (x6 x7 x8 : Option D), rest = rs.map .int ∧ s = [some (pot a b c), some (.lst (oss.map oL)), some (.tup (hs.map .int)), some (.bl waits), some (.int span), some (.lst (st.map oD)), x6, x7, x8, none, none] ∧ st.length + rs.length = hs.length ∧ StOk many ties waits st)
    ⟨a, b, c, [], hs, none, none, none, rfl, rfl, by simp, fun v hv => (by cases hv), fun _ g => Nat.zero_le _⟩ ?_ ?_
  · rintro d ds s ⟨a, b, c, st, rs, x6, x7, x8, e1, rfl, e2, hS⟩
    cases rs with
    | nil => cases e1
    | cons home rs =>
      rw [List.map_cons] at e1
      injection e1 with e3 e4
      subst e3 e4
      rw [List.length_cons] at e2
      simp (maxSteps := 2000000) (disch := first | assumption | omega) only [wSs_nil, wS_set, wS_unp, wS_sidx, wS_smt, wS_ex, wS_ret, wS_ite, wS_pass, wE_cst, wE_glb, wE_var, wE_sv, wE_mv, wE_rf, wE_frz, wE_op, wEs_nil, wEs_cons, wE_and, wE_or, wE_ite, wE_call, wE_bm, wE_pop, wK_none, wK_some, wR_seq, wR_rng1, wR_rng2, wR_zip, oS_some, bS_bl, iS_int, Mini.get, Mini.put, Mini.clear, Mini.back, Mini.scal, sem_neg, sem_not, sem_isN, sem_notN, sem_addI, sem_sub, sem_lt, sem_le, sem_gt, sem_ge, sem_eq, sem_ne, sem_in, sem_ni, sem_ixL, sem_ixT, sem_ixS, sem_lenL, sem_lenT, sem_lenS, sem_abs, sem_max2, sem_min2, sem_tupL, sem_tupT, sem_listL, sem_listT, sem_sorted, sem_all, sem_intB, sem_intI, sem_isL, sem_mkL0, sem_mkL1, sem_mkL2, sem_mkL3, sem_mkT0, sem_mkT1, sem_mkT2, sem_mkT3, Mini.isLst, Mini.fill, Mini.refs, Mini.ref1, Mini.backR, Option.map_some, Mini.unpD, Mini.bindL, Mini.bindT, Mini.itemsD, Mini.recM, Mini.isNon, Mini.wOut, Mini.outsOf, Mini.own, List.take, true_and, and_true, if_true, Bool.false_eq_true, if_false, at3_0, at3_1, at3_2, at2_0, at2_1, ix3_0, ix3_1, ix3_2, List.length_cons, List.length_nil, List.set_cons_zero, List.set_cons_succ, Nat.zero_add, Nat.reduceAdd, sem_fdivS, sem_mulS, sem_mod]
      (rw [wSs_cons]; simp (maxSteps := 2000000) (disch := first | assumption | omega) only [wSs_nil, wS_set, wS_unp, wS_sidx, wS_smt, wS_ex, wS_ret, wS_ite, wS_pass, wE_cst, wE_glb, wE_var, wE_sv, wE_mv, wE_rf, wE_frz, wE_op, wEs_nil, wEs_cons, wE_and, wE_or, wE_ite, wE_call, wE_bm, wE_pop, wK_none, wK_some, wR_seq, wR_rng1, wR_rng2, wR_zip, oS_some, bS_bl, iS_int, Mini.get, Mini.put, Mini.clear, Mini.back, Mini.scal, sem_neg, sem_not, sem_isN, sem_notN, sem_addI, sem_sub, sem_lt, sem_le, sem_gt, sem_ge, sem_eq, sem_ne, sem_in, sem_ni, sem_ixL, sem_ixT, sem_ixS, sem_lenL, sem_lenT, sem_lenS, sem_abs, sem_max2, sem_min2, sem_tupL, sem_tupT, sem_listL, sem_listT, sem_sorted, sem_all, sem_intB, sem_intI, sem_isL, sem_mkL0, sem_mkL1, sem_mkL2, sem_mkL3, sem_mkT0, sem_mkT1, sem_mkT2, sem_mkT3, Mini.isLst, Mini.fill, Mini.refs, Mini.ref1, Mini.backR, Option.map_some, Mini.unpD, Mini.bindL, Mini.bindT, Mini.itemsD, Mini.recM, Mini.isNon, Mini.wOut, Mini.outsOf, Mini.own, List.take, true_and, and_true, if_true, Bool.false_eq_true, if_false, at3_0, at3_1, at3_2, at2_0, at2_1, ix3_0, ix3_1, ix3_2, List.length_cons, List.length_nil, List.set_cons_zero, List.set_cons_succ, Nat.zero_add, Nat.reduceAdd, sem_fdivS, sem_mulS, sem_mod])
      refine wC_mono (take_ok n a b c (span + 1) (by omega) (by omega)) ?_
      rintro d os ⟨house, a, b, c, rfl, q1, q2, rfl⟩
      simp (maxSteps := 2000000) (disch := first | assumption | omega) only [wSs_nil, wS_set, wS_unp, wS_sidx, wS_smt, wS_ex, wS_ret, wS_ite, wS_pass, wE_cst, wE_glb, wE_var, wE_sv, wE_mv, wE_rf, wE_frz, wE_op, wEs_nil, wEs_cons, wE_and, wE_or, wE_ite, wE_call, wE_bm, wE_pop, wK_none, wK_some, wR_seq, wR_rng1, wR_rng2, wR_zip, oS_some, bS_bl, iS_int, Mini.get, Mini.put, Mini.clear, Mini.back, Mini.scal, sem_neg, sem_not, sem_isN, sem_notN, sem_addI, sem_sub, sem_lt, sem_le, sem_gt, sem_ge, sem_eq, sem_ne, sem_in, sem_ni, sem_ixL, sem_ixT, sem_ixS, sem_lenL, sem_lenT, sem_lenS, sem_abs, sem_max2, sem_min2, sem_tupL, sem_tupT, sem_listL, sem_listT, sem_sorted, sem_all, sem_intB, sem_intI, sem_isL, sem_mkL0, sem_mkL1, sem_mkL2, sem_mkL3, sem_mkT0, sem_mkT1, sem_mkT2, sem_mkT3, Mini.isLst, Mini.fill, Mini.refs, Mini.ref1, Mini.backR, Option.map_some, Mini.unpD, Mini.bindL, Mini.bindT, Mini.itemsD, Mini.recM, Mini.isNon, Mini.wOut, Mini.outsOf, Mini.own, List.take, true_and, and_true, if_true, Bool.false_eq_true, if_false, at3_0, at3_1, at3_2, at2_0, at2_1, ix3_0, ix3_1, ix3_2, List.length_cons, List.length_nil, List.set_cons_zero, List.set_cons_succ, Nat.zero_add, Nat.reduceAdd, sem_fdivS, sem_mulS, sem_mod]
      rw [wSs_cons]
      simp (maxSteps := 2000000) (disch := first | assumption | omega) only [wSs_nil, wS_set, wS_unp, wS_sidx, wS_smt, wS_ex, wS_ret, wS_ite, wS_pass, wE_cst, wE_glb, wE_var, wE_sv, wE_mv, wE_rf, wE_frz, wE_op, wEs_nil, wEs_cons, wE_and, wE_or, wE_ite, wE_call, wE_bm, wE_pop, wK_none, wK_some, wR_seq, wR_rng1, wR_rng2, wR_zip, oS_some, bS_bl, iS_int, Mini.get, Mini.put, Mini.clear, Mini.back, Mini.scal, sem_neg, sem_not, sem_isN, sem_notN, sem_addI, sem_sub, sem_lt, sem_le, sem_gt, sem_ge, sem_eq, sem_ne, sem_in, sem_ni, sem_ixL, sem_ixT, sem_ixS, sem_lenL, sem_lenT, sem_lenS, sem_abs, sem_max2, sem_min2, sem_tupL, sem_tupT, sem_listL, sem_listT, sem_sorted, sem_all, sem_intB, sem_intI, sem_isL, sem_mkL0, sem_mkL1, sem_mkL2, sem_mkL3, sem_mkT0, sem_mkT1, sem_mkT2, sem_mkT3, Mini.isLst, Mini.fill, Mini.refs, Mini.ref1, Mini.backR, Option.map_some, Mini.unpD, Mini.bindL, Mini.bindT, Mini.itemsD, Mini.recM, Mini.isNon, Mini.wOut, Mini.outsOf, Mini.own, List.take, true_and, and_true, if_true, Bool.false_eq_true, if_false, at3_0, at3_1, at3_2, at2_0, at2_1, ix3_0, ix3_1, ix3_2, List.length_cons, List.length_nil, List.set_cons_zero, List.set_cons_succ, Nat.zero_add, Nat.reduceAdd, sem_fdivS, sem_mulS, sem_mod]
      refine wE_comp ?_
      simp (maxSteps := 2000000) only [List.length_map, hol, hmul, wSs_nil, wS_set, wS_unp, wS_sidx, wS_smt, wS_ex, wS_ret, wS_ite, wS_pass, wE_cst, wE_glb, wE_var, wE_sv, wE_mv, wE_rf, wE_frz, wE_op, wEs_nil, wEs_cons, wE_and, wE_or, wE_ite, wE_call, wE_bm, wE_pop, wK_none, wK_some, wR_seq, wR_rng1, wR_rng2, wR_zip, oS_some, bS_bl, iS_int, Mini.get, Mini.put, Mini.clear, Mini.back, Mini.scal, sem_neg, sem_not, sem_isN, sem_notN, sem_addI, sem_sub, sem_lt, sem_le, sem_gt, sem_ge, sem_eq, sem_ne, sem_in, sem_ni, sem_ixL, sem_ixT, sem_ixS, sem_lenL, sem_lenT, sem_lenS, sem_abs, sem_max2, sem_min2, sem_tupL, sem_tupT, sem_listL, sem_listT, sem_sorted, sem_all, sem_intB, sem_intI, sem_isL, sem_mkL0, sem_mkL1, sem_mkL2, sem_mkL3, sem_mkT0, sem_mkT1, sem_mkT2, sem_mkT3, Mini.isLst, Mini.fill, Mini.refs, Mini.ref1, Mini.backR, Option.map_some, Mini.unpD, Mini.bindL, Mini.bindT, Mini.itemsD, Mini.recM, Mini.isNon, Mini.wOut, Mini.outsOf, Mini.own, List.take, true_and, and_true, if_true, Bool.false_eq_true, if_false, at3_0, at3_1, at3_2, at2_0, at2_1, ix3_0, ix3_1, ix3_2, List.length_cons, List.length_nil, List.set_cons_zero, List.set_cons_succ, Nat.zero_add, Nat.reduceAdd]
      have hN : 0 ≤ many * (if decide (house < span) = true then 1 else 0) ∧ many * (if decide (house < span) = true then 1 else 0) ≤ 32 := by
        split <;> omega
      generalize many * (if decide (house < span) = true then 1 else 0) = N at hN
      refine ⟨by omega, ?_⟩
      rw [rngD_rg]
      refine comp_map (rg 0 _) D.int (fun k => .int ((house + k) % many)) (by rw [rg_len, limE]; omega) (fun k hk => ?_) ?_
      · simp (maxSteps := 2000000) (disch := first | assumption | omega) only [List.length_map, hol, wSs_nil, wS_set, wS_unp, wS_sidx, wS_smt, wS_ex, wS_ret, wS_ite, wS_pass, wE_cst, wE_glb, wE_var, wE_sv, wE_mv, wE_rf, wE_frz, wE_op, wEs_nil, wEs_cons, wE_and, wE_or, wE_ite, wE_call, wE_bm, wE_pop, wK_none, wK_some, wR_seq, wR_rng1, wR_rng2, wR_zip, oS_some, bS_bl, iS_int, Mini.get, Mini.put, Mini.clear, Mini.back, Mini.scal, sem_neg, sem_not, sem_isN, sem_notN, sem_addI, sem_sub, sem_lt, sem_le, sem_gt, sem_ge, sem_eq, sem_ne, sem_in, sem_ni, sem_ixL, sem_ixT, sem_ixS, sem_lenL, sem_lenT, sem_lenS, sem_abs, sem_max2, sem_min2, sem_tupL, sem_tupT, sem_listL, sem_listT, sem_sorted, sem_all, sem_intB, sem_intI, sem_isL, sem_mkL0, sem_mkL1, sem_mkL2, sem_mkL3, sem_mkT0, sem_mkT1, sem_mkT2, sem_mkT3, Mini.isLst, Mini.fill, Mini.refs, Mini.ref1, Mini.backR, Option.map_some, Mini.unpD, Mini.bindL, Mini.bindT, Mini.itemsD, Mini.recM, Mini.isNon, Mini.wOut, Mini.outsOf, Mini.own, List.take, true_and, and_true, if_true, Bool.false_eq_true, if_false, at3_0, at3_1, at3_2, at2_0, at2_1, ix3_0, ix3_1, ix3_2, List.length_cons, List.length_nil, List.set_cons_zero, List.set_cons_succ, Nat.zero_add, Nat.reduceAdd, sem_fdivS, sem_mulS, sem_mod]
      · simp (maxSteps := 2000000) (disch := first | assumption | omega) only [wSs_nil, wS_set, wS_unp, wS_sidx, wS_smt, wS_ex, wS_ret, wS_ite, wS_pass, wE_cst, wE_glb, wE_var, wE_sv, wE_mv, wE_rf, wE_frz, wE_op, wEs_nil, wEs_cons, wE_and, wE_or, wE_ite, wE_call, wE_bm, wE_pop, wK_none, wK_some, wR_seq, wR_rng1, wR_rng2, wR_zip, oS_some, bS_bl, iS_int, Mini.get, Mini.put, Mini.clear, Mini.back, Mini.scal, sem_neg, sem_not, sem_isN, sem_notN, sem_addI, sem_sub, sem_lt, sem_le, sem_gt, sem_ge, sem_eq, sem_ne, sem_in, sem_ni, sem_ixL, sem_ixT, sem_ixS, sem_lenL, sem_lenT, sem_lenS, sem_abs, sem_max2, sem_min2, sem_tupL, sem_tupT, sem_listL, sem_listT, sem_sorted, sem_all, sem_intB, sem_intI, sem_isL, sem_mkL0, sem_mkL1, sem_mkL2, sem_mkL3, sem_mkT0, sem_mkT1, sem_mkT2, sem_mkT3, Mini.isLst, Mini.fill, Mini.refs, Mini.ref1, Mini.backR, Option.map_some, Mini.unpD, Mini.bindL, Mini.bindT, Mini.itemsD, Mini.recM, Mini.isNon, Mini.wOut, Mini.outsOf, Mini.own, List.take, true_and, and_true, if_true, Bool.false_eq_true, if_false, at3_0, at3_1, at3_2, at2_0, at2_1, ix3_0, ix3_1, ix3_2, List.length_cons, List.length_nil, List.set_cons_zero, List.set_cons_succ, Nat.zero_add, Nat.reduceAdd, sem_fdivS, sem_mulS, sem_mod]
        have e5 : (rg 0 N.toNat).map (fun k => D.int ((house + k) % many)) = ((rg 0 N.toNat).map fun k => (house + k) % many).map .int := by
          rw [List.map_map]
          rfl
        rw [e5]
        generalize hX : (rg 0 N.toNat).map (fun k => (house + k) % many) = X
        have hXr : ∀ x ∈ X, 0 ≤ x ∧ x < many := fun x hx => by
          rw [← hX] at hx
          obtain ⟨k, _, rfl⟩ := List.mem_map.mp hx
          exact ⟨Int.emod_nonneg _ (by omega), Int.emod_lt_of_pos _ (by omega)⟩
        have hXl : X.length ≤ 32 := by
          rw [← hX, List.length_map, rg_len]
          omega
        rw [wSs_cons]
        simp (maxSteps := 2000000) (disch := first | assumption | omega) only [wSs_nil, wS_set, wS_unp, wS_sidx, wS_smt, wS_ex, wS_ret, wS_ite, wS_pass, wE_cst, wE_glb, wE_var, wE_sv, wE_mv, wE_rf, wE_frz, wE_op, wEs_nil, wEs_cons, wE_and, wE_or, wE_ite, wE_call, wE_bm, wE_pop, wK_none, wK_some, wR_seq, wR_rng1, wR_rng2, wR_zip, oS_some, bS_bl, iS_int, Mini.get, Mini.put, Mini.clear, Mini.back, Mini.scal, sem_neg, sem_not, sem_isN, sem_notN, sem_addI, sem_sub, sem_lt, sem_le, sem_gt, sem_ge, sem_eq, sem_ne, sem_in, sem_ni, sem_ixL, sem_ixT, sem_ixS, sem_lenL, sem_lenT, sem_lenS, sem_abs, sem_max2, sem_min2, sem_tupL, sem_tupT, sem_listL, sem_listT, sem_sorted, sem_all, sem_intB, sem_intI, sem_isL, sem_mkL0, sem_mkL1, sem_mkL2, sem_mkL3, sem_mkT0, sem_mkT1, sem_mkT2, sem_mkT3, Mini.isLst, Mini.fill, Mini.refs, Mini.ref1, Mini.backR, Option.map_some, Mini.unpD, Mini.bindL, Mini.bindT, Mini.itemsD, Mini.recM, Mini.isNon, Mini.wOut, Mini.outsOf, Mini.own, List.take, true_and, and_true, if_true, Bool.false_eq_true, if_false, at3_0, at3_1, at3_2, at2_0, at2_1, ix3_0, ix3_1, ix3_2, List.length_cons, List.length_nil, List.set_cons_zero, List.set_cons_succ, Nat.zero_add, Nat.reduceAdd, sem_fdivS, sem_mulS, sem_mod]
        refine wE_comp ?_
        simp (maxSteps := 2000000) (disch := first | assumption | omega) only [wSs_nil, wS_set, wS_unp, wS_sidx, wS_smt, wS_ex, wS_ret, wS_ite, wS_pass, wE_cst, wE_glb, wE_var, wE_sv, wE_mv, wE_rf, wE_frz, wE_op, wEs_nil, wEs_cons, wE_and, wE_or, wE_ite, wE_call, wE_bm, wE_pop, wK_none, wK_some, wR_seq, wR_rng1, wR_rng2, wR_zip, oS_some, bS_bl, iS_int, Mini.get, Mini.put, Mini.clear, Mini.back, Mini.scal, sem_neg, sem_not, sem_isN, sem_notN, sem_addI, sem_sub, sem_lt, sem_le, sem_gt, sem_ge, sem_eq, sem_ne, sem_in, sem_ni, sem_ixL, sem_ixT, sem_ixS, sem_lenL, sem_lenT, sem_lenS, sem_abs, sem_max2, sem_min2, sem_tupL, sem_tupT, sem_listL, sem_listT, sem_sorted, sem_all, sem_intB, sem_intI, sem_isL, sem_mkL0, sem_mkL1, sem_mkL2, sem_mkL3, sem_mkT0, sem_mkT1, sem_mkT2, sem_mkT3, Mini.isLst, Mini.fill, Mini.refs, Mini.ref1, Mini.backR, Option.map_some, Mini.unpD, Mini.bindL, Mini.bindT, Mini.itemsD, Mini.recM, Mini.isNon, Mini.wOut, Mini.outsOf, Mini.own, List.take, true_and, and_true, if_true, Bool.false_eq_true, if_false, at3_0, at3_1, at3_2, at2_0, at2_1, ix3_0, ix3_1, ix3_2, List.length_cons, List.length_nil, List.set_cons_zero, List.set_cons_succ, Nat.zero_add, Nat.reduceAdd, sem_fdivS, sem_mulS, sem_mod]
        refine comp_fm X D.int (fun o => (!decide (o = home)) && (waits || decide (((cnt st o : Nat) : Int) < (((oss.getD o.toNat []).length : Nat) : Int)))) D.int (by rw [limE]; omega) (fun o ho => ?_) ?_
        · obtain ⟨o1, o2⟩ := hXr o ho
          have eo := at_oss (oss := oss) o1 (by omega)
          simp (maxSteps := 2000000) (disch := first | assumption | omega) only [eqD_int, cnt_o, eo, List.length_map, wSs_nil, wS_set, wS_unp, wS_sidx, wS_smt, wS_ex, wS_ret, wS_ite, wS_pass, wE_cst, wE_glb, wE_var, wE_sv, wE_mv, wE_rf, wE_frz, wE_op, wEs_nil, wEs_cons, wE_and, wE_or, wE_ite, wE_call, wE_bm, wE_pop, wK_none, wK_some, wR_seq, wR_rng1, wR_rng2, wR_zip, oS_some, bS_bl, iS_int, Mini.get, Mini.put, Mini.clear, Mini.back, Mini.scal, sem_neg, sem_not, sem_isN, sem_notN, sem_addI, sem_sub, sem_lt, sem_le, sem_gt, sem_ge, sem_eq, sem_ne, sem_in, sem_ni, sem_ixL, sem_ixT, sem_ixS, sem_lenL, sem_lenT, sem_lenS, sem_abs, sem_max2, sem_min2, sem_tupL, sem_tupT, sem_listL, sem_listT, sem_sorted, sem_all, sem_intB, sem_intI, sem_isL, sem_mkL0, sem_mkL1, sem_mkL2, sem_mkL3, sem_mkT0, sem_mkT1, sem_mkT2, sem_mkT3, Mini.isLst, Mini.fill, Mini.refs, Mini.ref1, Mini.backR, Option.map_some, Mini.unpD, Mini.bindL, Mini.bindT, Mini.itemsD, Mini.recM, Mini.isNon, Mini.wOut, Mini.outsOf, Mini.own, List.take, true_and, and_true, if_true, Bool.false_eq_true, if_false, at3_0, at3_1, at3_2, at2_0, at2_1, ix3_0, ix3_1, ix3_2, List.length_cons, List.length_nil, List.set_cons_zero, List.set_cons_succ, Nat.zero_add, Nat.reduceAdd, sem_fdivS, sem_mulS, sem_mod]
          unfold cnt
          cases waits <;> cases hd : decide (o = home) <;> simp [hd]
        · simp (maxSteps := 2000000) (disch := first | assumption | omega) only [wSs_nil, wS_set, wS_unp, wS_sidx, wS_smt, wS_ex, wS_ret, wS_ite, wS_pass, wE_cst, wE_glb, wE_var, wE_sv, wE_mv, wE_rf, wE_frz, wE_op, wEs_nil, wEs_cons, wE_and, wE_or, wE_ite, wE_call, wE_bm, wE_pop, wK_none, wK_some, wR_seq, wR_rng1, wR_rng2, wR_zip, oS_some, bS_bl, iS_int, Mini.get, Mini.put, Mini.clear, Mini.back, Mini.scal, sem_neg, sem_not, sem_isN, sem_notN, sem_addI, sem_sub, sem_lt, sem_le, sem_gt, sem_ge, sem_eq, sem_ne, sem_in, sem_ni, sem_ixL, sem_ixT, sem_ixS, sem_lenL, sem_lenT, sem_lenS, sem_abs, sem_max2, sem_min2, sem_tupL, sem_tupT, sem_listL, sem_listT, sem_sorted, sem_all, sem_intB, sem_intI, sem_isL, sem_mkL0, sem_mkL1, sem_mkL2, sem_mkL3, sem_mkT0, sem_mkT1, sem_mkT2, sem_mkT3, Mini.isLst, Mini.fill, Mini.refs, Mini.ref1, Mini.backR, Option.map_some, Mini.unpD, Mini.bindL, Mini.bindT, Mini.itemsD, Mini.recM, Mini.isNon, Mini.wOut, Mini.outsOf, Mini.own, List.take, true_and, and_true, if_true, Bool.false_eq_true, if_false, at3_0, at3_1, at3_2, at2_0, at2_1, ix3_0, ix3_1, ix3_2, List.length_cons, List.length_nil, List.set_cons_zero, List.set_cons_succ, Nat.zero_add, Nat.reduceAdd, sem_fdivS, sem_mulS, sem_mod]
          generalize hY : X.filter (fun o => (!decide (o = home)) && (waits || decide (((cnt st o : Nat) : Int) < (((oss.getD o.toNat []).length : Nat) : Int)))) = Y
          have hYl : Y.length ≤ 32 := by
            rw [← hY]
            exact Nat.le_trans (List.length_filter_le _ _) hXl
          have hcat : sem .cat [.lst (Y.map .int), .lst [.non]] = some (.lst (Y.map .int ++ [.non])) := sem_cat (by rw [List.length_map, limE, List.length_singleton]; omega)
          (rw [wSs_cons]; simp (maxSteps := 2000000) (disch := first | assumption | omega) only [hcat, head_opt, app_o, wSs_nil, wS_set, wS_unp, wS_sidx, wS_smt, wS_ex, wS_ret, wS_ite, wS_pass, wE_cst, wE_glb, wE_var, wE_sv, wE_mv, wE_rf, wE_frz, wE_op, wEs_nil, wEs_cons, wE_and, wE_or, wE_ite, wE_call, wE_bm, wE_pop, wK_none, wK_some, wR_seq, wR_rng1, wR_rng2, wR_zip, oS_some, bS_bl, iS_int, Mini.get, Mini.put, Mini.clear, Mini.back, Mini.scal, sem_neg, sem_not, sem_isN, sem_notN, sem_addI, sem_sub, sem_lt, sem_le, sem_gt, sem_ge, sem_eq, sem_ne, sem_in, sem_ni, sem_ixL, sem_ixT, sem_ixS, sem_lenL, sem_lenT, sem_lenS, sem_abs, sem_max2, sem_min2, sem_tupL, sem_tupT, sem_listL, sem_listT, sem_sorted, sem_all, sem_intB, sem_intI, sem_isL, sem_mkL0, sem_mkL1, sem_mkL2, sem_mkL3, sem_mkT0, sem_mkT1, sem_mkT2, sem_mkT3, Mini.isLst, Mini.fill, Mini.refs, Mini.ref1, Mini.backR, Option.map_some, Mini.unpD, Mini.bindL, Mini.bindT, Mini.itemsD, Mini.recM, Mini.isNon, Mini.wOut, Mini.outsOf, Mini.own, List.take, true_and, and_true, if_true, Bool.false_eq_true, if_false, at3_0, at3_1, at3_2, at2_0, at2_1, ix3_0, ix3_1, ix3_2, List.length_cons, List.length_nil, List.set_cons_zero, List.set_cons_succ, Nat.zero_add, Nat.reduceAdd, sem_fdivS, sem_mulS, sem_mod])
          have hS2 : StOk many ties waits (st ++ [Y.head?]) := hS.snoc fun v hv => by
            have hm : v ∈ Y := List.mem_of_mem_head? hv
            rw [← hY] at hm
            obtain ⟨m1, m2⟩ := List.mem_filter.mp hm
            refine ⟨hXr v m1, fun hw => ?_⟩
            rw [hw, Bool.false_or, Bool.and_eq_true] at m2
            have m3 := of_decide_eq_true m2.2
            rw [len_out hO (hXr v m1).1 (hXr v m1).2] at m3
            omega
          first
            | exact ⟨a, b, c, st ++ [Y.head?], rs, _, _, _, rfl, rfl, by simp; omega, hS2⟩
            | (rw [wSs_nil]; exact ⟨a, b, c, st ++ [Y.head?], rs, _, _, _, rfl, rfl, by simp; omega, hS2⟩)
  · rintro s ⟨a, b, c, st, rs, x6, x7, x8, e1, rfl, e2, hS⟩
    cases rs with
    | cons _ _ => cases e1
    | nil =>
      (rw [wSs_cons]; simp (maxSteps := 2000000) (disch := first | assumption | omega) only [wSs_nil, wS_set, wS_unp, wS_sidx, wS_smt, wS_ex, wS_ret, wS_ite, wS_pass, wE_cst, wE_glb, wE_var, wE_sv, wE_mv, wE_rf, wE_frz, wE_op, wEs_nil, wEs_cons, wE_and, wE_or, wE_ite, wE_call, wE_bm, wE_pop, wK_none, wK_some, wR_seq, wR_rng1, wR_rng2, wR_zip, oS_some, bS_bl, iS_int, Mini.get, Mini.put, Mini.clear, Mini.back, Mini.scal, sem_neg, sem_not, sem_isN, sem_notN, sem_addI, sem_sub, sem_lt, sem_le, sem_gt, sem_ge, sem_eq, sem_ne, sem_in, sem_ni, sem_ixL, sem_ixT, sem_ixS, sem_lenL, sem_lenT, sem_lenS, sem_abs, sem_max2, sem_min2, sem_tupL, sem_tupT, sem_listL, sem_listT, sem_sorted, sem_all, sem_intB, sem_intI, sem_isL, sem_mkL0, sem_mkL1, sem_mkL2, sem_mkL3, sem_mkT0, sem_mkT1, sem_mkT2, sem_mkT3, Mini.isLst, Mini.fill, Mini.refs, Mini.ref1, Mini.backR, Option.map_some, Mini.unpD, Mini.bindL, Mini.bindT, Mini.itemsD, Mini.recM, Mini.isNon, Mini.wOut, Mini.outsOf, Mini.own, List.take, true_and, and_true, if_true, Bool.false_eq_true, if_false, at3_0, at3_1, at3_2, at2_0, at2_1, ix3_0, ix3_1, ix3_2, List.length_cons, List.length_nil, List.set_cons_zero, List.set_cons_succ, Nat.zero_add, Nat.reduceAdd, sem_fdivS, sem_mulS, sem_mod])
      exact ⟨st, a, b, c, rfl, by simpa using e2, hS, rfl⟩
end Lk51

namespace Lk51
open Mini
/-- the ties taken -/
def taken : List (Option Int) → List (Option Int) → List (Int × Int)
  | some h :: ss, some g :: hs => (h, g) :: taken ss hs
  | _ :: ss, _ :: hs => taken ss hs
  | _, _ => []
theorem taken_app : ∀ {ss hs : List (Option Int)} {a b : Option Int}, ss.length = hs.length → taken (ss ++ [a]) (hs ++ [b]) = taken ss hs ++ taken [a] [b]
  | [], [], _, _, _ => rfl
  | [], _ :: _, _, _, h => by cases h
  | _ :: _, [], _, _, h => by cases h
  | none :: ss, x :: hs, a, b, h => taken_app (ss := ss) (hs := hs) (Nat.succ.inj h)
  | some y :: ss, none :: hs, a, b, h => taken_app (ss := ss) (hs := hs) (Nat.succ.inj h)
  | some y :: ss, some x :: hs, a, b, h => by
    show (y, x) :: taken (ss ++ [a]) (hs ++ [b]) = (y, x) :: (taken ss hs ++ taken [a] [b])
    rw [taken_app (ss := ss) (hs := hs) (Nat.succ.inj h)]
theorem taken_cnt : ∀ {ss hs : List (Option Int)} (g : Int), (taken ss hs).countP (fun p => decide (p.1 = g)) ≤ cnt ss g
  | [], [], g => Nat.zero_le _
  | [], _ :: _, g => Nat.zero_le _
  | s :: ss, [], g => by cases s <;> exact Nat.zero_le _
  | none :: ss, x :: hs, g => by
    have := taken_cnt (ss := ss) (hs := hs) g
    unfold cnt at this ⊢
    rw [List.countP_cons]
    show (taken ss hs).countP _ ≤ _
    omega
  | some y :: ss, none :: hs, g => by
    have := taken_cnt (ss := ss) (hs := hs) g
    unfold cnt at this ⊢
    rw [List.countP_cons]
    show (taken ss hs).countP _ ≤ _
    omega
  | some y :: ss, some x :: hs, g => by
    have := taken_cnt (ss := ss) (hs := hs) g
    unfold cnt at this ⊢
    show ((y, x) :: taken ss hs).countP _ ≤ _
    rw [List.countP_cons, List.countP_cons]
    by_cases e : y = g <;> simp [e] <;> omega
/-- what a handing keeps: where one stands, one is handed on; along ties that nobody else takes, where none waits -/
def HdOk (many : Int) (ties : List (Int × Int)) (waits : Bool) (st hd : List (Option Int)) : Prop := hd.length = st.length ∧ (∀ v, some v ∈ hd → 0 ≤ v ∧ v < many) ∧ (waits = false → (taken st hd).Nodup ∧ ∀ p ∈ taken st hd, p ∈ ties)
theorem free_tie {ties tk : List (Int × Int)} {l : List Int} {h : Int} (hl : l.Perm ((ties.filter fun p => decide (p.1 = h)).map (·.2))) (hn : ties.Nodup) (hc : tk.countP (fun p => decide (p.1 = h)) < l.length) : l.filter (fun o => !decide ((h, o) ∈ tk)) ≠ [] := by
  intro e
  have all : ∀ o ∈ l, (h, o) ∈ tk := fun o ho => by
    by_cases hm : (h, o) ∈ tk
    · exact hm
    · have : o ∈ l.filter (fun o => !decide ((h, o) ∈ tk)) := List.mem_filter.mpr ⟨ho, by simp [hm]⟩
      rw [e] at this
      cases this
  have ln : l.Nodup := by
    refine hl.nodup_iff.mpr (nodup_map (fun x hx y hy e => ?_) (hn.filter _))
    have h1 := of_decide_eq_true (List.mem_filter.mp hx).2
    have h2 := of_decide_eq_true (List.mem_filter.mp hy).2
    exact Prod.ext (by rw [h1, h2]) e
  have pn : (l.map fun o => (h, o)).Nodup := nodup_map (fun x _ y _ e => by injection e) ln
  have := nodup_sub (m := tk.filter fun p => decide (p.1 = h)) pn fun p hp => by
    obtain ⟨o, ho, rfl⟩ := List.mem_map.mp hp
    exact List.mem_filter.mpr ⟨all o ho, decide_eq_true rfl⟩
  rw [List.length_map, ← List.countP_eq_length_filter] at this
  omega
theorem rep_if (waits : Bool) (h : Int) : sem .rep [.lst [.int h], .int (if waits = true then 1 else 0)] = some (.lst ((if waits = true then [h] else []).map .int)) := by
  cases waits <;> rfl
theorem handing_ok (n : Nat) (a b c many : Int) (ties : List (Int × Int)) (oss : List (List Int)) (st : List (Option Int)) (waits : Bool) (h1 : 1 ≤ many) (h2 : many ≤ 32) (hB : Bal many ties) (h3 : ties.length ≤ 20000) (hO : OutsOk many ties oss) (hS : StOk many ties waits st) (h4 : st.length ≤ 100) :
    wC (callF fds (n + 2) 15 [pot a b c, .lst (oss.map oL), .tup (st.map oD), .bl waits]) fun d os => ∃ (hd : List (Option Int)) (a b c : Int), d = .tup (hd.map oD) ∧ HdOk many ties waits st hd ∧ os = [some (pot a b c), none, none, none] := by
  refine wC_call (fd := f15) rfl rfl ?_
  show wSs (callF fds (n + 1)) f15.body [some (pot a b c), some (.lst (oss.map oL)), some (.tup (st.map oD)), some (.bl waits), none, none, none, none, none, none] _ _
  have hol : (oss.length : Int) = many := by
    rw [hO.1]
    omega
  simp only [f15]
  (rw [wSs_cons]; simp (maxSteps := 2000000) (disch := first | assumption | omega) only [wSs_nil, wS_set, wS_unp, wS_sidx, wS_smt, wS_ex, wS_ret, wS_ite, wS_pass, wE_cst, wE_glb, wE_var, wE_sv, wE_mv, wE_rf, wE_frz, wE_op, wEs_nil, wEs_cons, wE_and, wE_or, wE_ite, wE_call, wE_bm, wE_pop, wK_none, wK_some, wR_seq, wR_rng1, wR_rng2, wR_zip, oS_some, bS_bl, iS_int, Mini.get, Mini.put, Mini.clear, Mini.back, Mini.scal, sem_neg, sem_not, sem_isN, sem_notN, sem_addI, sem_sub, sem_lt, sem_le, sem_gt, sem_ge, sem_eq, sem_ne, sem_in, sem_ni, sem_ixL, sem_ixT, sem_ixS, sem_lenL, sem_lenT, sem_lenS, sem_abs, sem_max2, sem_min2, sem_tupL, sem_tupT, sem_listL, sem_listT, sem_sorted, sem_all, sem_intB, sem_intI, sem_isL, sem_mkL0, sem_mkL1, sem_mkL2, sem_mkL3, sem_mkT0, sem_mkT1, sem_mkT2, sem_mkT3, Mini.isLst, Mini.fill, Mini.refs, Mini.ref1, Mini.backR, Option.map_some, Mini.unpD, Mini.bindL, Mini.bindT, Mini.itemsD, Mini.recM, Mini.isNon, Mini.wOut, Mini.outsOf, Mini.own, List.take, true_and, and_true, if_true, Bool.false_eq_true, if_false, at3_0, at3_1, at3_2, at2_0, at2_1, ix3_0, ix3_1, ix3_2, List.length_cons, List.length_nil, List.set_cons_zero, List.set_cons_succ, Nat.zero_add, Nat.reduceAdd, sem_fdivS, sem_mulS, sem_mod])
  (rw [wSs_cons]; simp (maxSteps := 2000000) (disch := first | assumption | omega) only [wSs_nil, wS_set, wS_unp, wS_sidx, wS_smt, wS_ex, wS_ret, wS_ite, wS_pass, wE_cst, wE_glb, wE_var, wE_sv, wE_mv, wE_rf, wE_frz, wE_op, wEs_nil, wEs_cons, wE_and, wE_or, wE_ite, wE_call, wE_bm, wE_pop, wK_none, wK_some, wR_seq, wR_rng1, wR_rng2, wR_zip, oS_some, bS_bl, iS_int, Mini.get, Mini.put, Mini.clear, Mini.back, Mini.scal, sem_neg, sem_not, sem_isN, sem_notN, sem_addI, sem_sub, sem_lt, sem_le, sem_gt, sem_ge, sem_eq, sem_ne, sem_in, sem_ni, sem_ixL, sem_ixT, sem_ixS, sem_lenL, sem_lenT, sem_lenS, sem_abs, sem_max2, sem_min2, sem_tupL, sem_tupT, sem_listL, sem_listT, sem_sorted, sem_all, sem_intB, sem_intI, sem_isL, sem_mkL0, sem_mkL1, sem_mkL2, sem_mkL3, sem_mkT0, sem_mkT1, sem_mkT2, sem_mkT3, Mini.isLst, Mini.fill, Mini.refs, Mini.ref1, Mini.backR, Option.map_some, Mini.unpD, Mini.bindL, Mini.bindT, Mini.itemsD, Mini.recM, Mini.isNon, Mini.wOut, Mini.outsOf, Mini.own, List.take, true_and, and_true, if_true, Bool.false_eq_true, if_false, at3_0, at3_1, at3_2, at2_0, at2_1, ix3_0, ix3_1, ix3_2, List.length_cons, List.length_nil, List.set_cons_zero, List.set_cons_succ, Nat.zero_add, Nat.reduceAdd, sem_fdivS, sem_mulS, sem_mod])
  rw [wSs_cons]
  refine wS_for ?_
  simp (maxSteps := 2000000) (disch := first | assumption | omega) only [wSs_nil, wS_set, wS_unp, wS_sidx, wS_smt, wS_ex, wS_ret, wS_ite, wS_pass, wE_cst, wE_glb, wE_var, wE_sv, wE_mv, wE_rf, wE_frz, wE_op, wEs_nil, wEs_cons, wE_and, wE_or, wE_ite, wE_call, wE_bm, wE_pop, wK_none, wK_some, wR_seq, wR_rng1, wR_rng2, wR_zip, oS_some, bS_bl, iS_int, Mini.get, Mini.put, Mini.clear, Mini.back, Mini.scal, sem_neg, sem_not, sem_isN, sem_notN, sem_addI, sem_sub, sem_lt, sem_le, sem_gt, sem_ge, sem_eq, sem_ne, sem_in, sem_ni, sem_ixL, sem_ixT, sem_ixS, sem_lenL, sem_lenT, sem_lenS, sem_abs, sem_max2, sem_min2, sem_tupL, sem_tupT, sem_listL, sem_listT, sem_sorted, sem_all, sem_intB, sem_intI, sem_isL, sem_mkL0, sem_mkL1, sem_mkL2, sem_mkL3, sem_mkT0, sem_mkT1, sem_mkT2, sem_mkT3, Mini.isLst, Mini.fill, Mini.refs, Mini.ref1, Mini.backR, Option.map_some, Mini.unpD, Mini.bindL, Mini.bindT, Mini.itemsD, Mini.recM, Mini.isNon, Mini.wOut, Mini.outsOf, Mini.own, List.take, true_and, and_true, if_true, Bool.false_eq_true, if_false, at3_0, at3_1, at3_2, at2_0, at2_1, ix3_0, ix3_1, ix3_2, List.length_cons, List.length_nil, List.set_cons_zero, List.set_cons_succ, Nat.zero_add, Nat.reduceAdd, sem_fdivS, sem_mulS, sem_mod]
  refine seq_loop (fun rest s => ∃ (a b c : Int) (dn rs hd : List (Option Int)) (x6 x7 x8 : Option D), st = dn ++ rs ∧ rest = rs.map oD ∧ s = [some (pot a b c), some (.lst (oss.map oL)), some (.tup (st.map oD)), some (.bl waits), some (.lst ((taken dn hd).map prD)), some (.lst (hd.map oD)), x6, x7, x8, none] ∧ HdOk many ties waits dn hd ∧ (taken dn hd).length ≤ dn.length)
    ⟨a, b, c, [], st, [], none, none, none, rfl, rfl, rfl, ⟨rfl, fun v hv => (by cases hv), fun _ => ⟨List.nodup_nil, fun p hp => (by cases hp)⟩⟩, Nat.le_refl _⟩ ?_ ?_
  · rintro d ds s ⟨a, b, c, dn, rs, hd, x6, x7, x8, e0, e1, rfl, hH, hTl⟩
    cases rs with
    | nil => cases e1
    | cons o rs =>
      rw [List.map_cons] at e1
      injection e1 with e3 e4
      subst e3 e4
      have hdl : dn.length < 100 := by
        rw [e0] at h4
        simp at h4
        omega
      have hhl := hH.1
      simp (maxSteps := 2000000) (disch := first | assumption | omega) only [wSs_nil, wS_set, wS_unp, wS_sidx, wS_smt, wS_ex, wS_ret, wS_ite, wS_pass, wE_cst, wE_glb, wE_var, wE_sv, wE_mv, wE_rf, wE_frz, wE_op, wEs_nil, wEs_cons, wE_and, wE_or, wE_ite, wE_call, wE_bm, wE_pop, wK_none, wK_some, wR_seq, wR_rng1, wR_rng2, wR_zip, oS_some, bS_bl, iS_int, Mini.get, Mini.put, Mini.clear, Mini.back, Mini.scal, sem_neg, sem_not, sem_isN, sem_notN, sem_addI, sem_sub, sem_lt, sem_le, sem_gt, sem_ge, sem_eq, sem_ne, sem_in, sem_ni, sem_ixL, sem_ixT, sem_ixS, sem_lenL, sem_lenT, sem_lenS, sem_abs, sem_max2, sem_min2, sem_tupL, sem_tupT, sem_listL, sem_listT, sem_sorted, sem_all, sem_intB, sem_intI, sem_isL, sem_mkL0, sem_mkL1, sem_mkL2, sem_mkL3, sem_mkT0, sem_mkT1, sem_mkT2, sem_mkT3, Mini.isLst, Mini.fill, Mini.refs, Mini.ref1, Mini.backR, Option.map_some, Mini.unpD, Mini.bindL, Mini.bindT, Mini.itemsD, Mini.recM, Mini.isNon, Mini.wOut, Mini.outsOf, Mini.own, List.take, true_and, and_true, if_true, Bool.false_eq_true, if_false, at3_0, at3_1, at3_2, at2_0, at2_1, ix3_0, ix3_1, ix3_2, List.length_cons, List.length_nil, List.set_cons_zero, List.set_cons_succ, Nat.zero_add, Nat.reduceAdd, sem_fdivS, sem_mulS, sem_mod]
      (rw [wSs_cons]; simp (maxSteps := 2000000) (disch := first | assumption | omega) only [wSs_nil, wS_set, wS_unp, wS_sidx, wS_smt, wS_ex, wS_ret, wS_ite, wS_pass, wE_cst, wE_glb, wE_var, wE_sv, wE_mv, wE_rf, wE_frz, wE_op, wEs_nil, wEs_cons, wE_and, wE_or, wE_ite, wE_call, wE_bm, wE_pop, wK_none, wK_some, wR_seq, wR_rng1, wR_rng2, wR_zip, oS_some, bS_bl, iS_int, Mini.get, Mini.put, Mini.clear, Mini.back, Mini.scal, sem_neg, sem_not, sem_isN, sem_notN, sem_addI, sem_sub, sem_lt, sem_le, sem_gt, sem_ge, sem_eq, sem_ne, sem_in, sem_ni, sem_ixL, sem_ixT, sem_ixS, sem_lenL, sem_lenT, sem_lenS, sem_abs, sem_max2, sem_min2, sem_tupL, sem_tupT, sem_listL, sem_listT, sem_sorted, sem_all, sem_intB, sem_intI, sem_isL, sem_mkL0, sem_mkL1, sem_mkL2, sem_mkL3, sem_mkT0, sem_mkT1, sem_mkT2, sem_mkT3, Mini.isLst, Mini.fill, Mini.refs, Mini.ref1, Mini.backR, Option.map_some, Mini.unpD, Mini.bindL, Mini.bindT, Mini.itemsD, Mini.recM, Mini.isNon, Mini.wOut, Mini.outsOf, Mini.own, List.take, true_and, and_true, if_true, Bool.false_eq_true, if_false, at3_0, at3_1, at3_2, at2_0, at2_1, ix3_0, ix3_1, ix3_2, List.length_cons, List.length_nil, List.set_cons_zero, List.set_cons_succ, Nat.zero_add, Nat.reduceAdd, sem_fdivS, sem_mulS, sem_mod])
      cases o with
      | none =>
        (rw [wSs_cons]; simp (maxSteps := 2000000) (disch := first | assumption | omega) only [oD, Bool.not_true, Bool.not_false, wSs_nil, wS_set, wS_unp, wS_sidx, wS_smt, wS_ex, wS_ret, wS_ite, wS_pass, wE_cst, wE_glb, wE_var, wE_sv, wE_mv, wE_rf, wE_frz, wE_op, wEs_nil, wEs_cons, wE_and, wE_or, wE_ite, wE_call, wE_bm, wE_pop, wK_none, wK_some, wR_seq, wR_rng1, wR_rng2, wR_zip, oS_some, bS_bl, iS_int, Mini.get, Mini.put, Mini.clear, Mini.back, Mini.scal, sem_neg, sem_not, sem_isN, sem_notN, sem_addI, sem_sub, sem_lt, sem_le, sem_gt, sem_ge, sem_eq, sem_ne, sem_in, sem_ni, sem_ixL, sem_ixT, sem_ixS, sem_lenL, sem_lenT, sem_lenS, sem_abs, sem_max2, sem_min2, sem_tupL, sem_tupT, sem_listL, sem_listT, sem_sorted, sem_all, sem_intB, sem_intI, sem_isL, sem_mkL0, sem_mkL1, sem_mkL2, sem_mkL3, sem_mkT0, sem_mkT1, sem_mkT2, sem_mkT3, Mini.isLst, Mini.fill, Mini.refs, Mini.ref1, Mini.backR, Option.map_some, Mini.unpD, Mini.bindL, Mini.bindT, Mini.itemsD, Mini.recM, Mini.isNon, Mini.wOut, Mini.outsOf, Mini.own, List.take, true_and, and_true, if_true, Bool.false_eq_true, if_false, at3_0, at3_1, at3_2, at2_0, at2_1, ix3_0, ix3_1, ix3_2, List.length_cons, List.length_nil, List.set_cons_zero, List.set_cons_succ, Nat.zero_add, Nat.reduceAdd, sem_fdivS, sem_mulS, sem_mod])
        have ea : mopD .append (hd.map oD) [.non] = some ((hd ++ [none]).map oD) := app_o (o := none) (by omega)
        (rw [wSs_cons]; simp (maxSteps := 2000000) (disch := first | assumption | omega) only [ea, wSs_nil, wS_set, wS_unp, wS_sidx, wS_smt, wS_ex, wS_ret, wS_ite, wS_pass, wE_cst, wE_glb, wE_var, wE_sv, wE_mv, wE_rf, wE_frz, wE_op, wEs_nil, wEs_cons, wE_and, wE_or, wE_ite, wE_call, wE_bm, wE_pop, wK_none, wK_some, wR_seq, wR_rng1, wR_rng2, wR_zip, oS_some, bS_bl, iS_int, Mini.get, Mini.put, Mini.clear, Mini.back, Mini.scal, sem_neg, sem_not, sem_isN, sem_notN, sem_addI, sem_sub, sem_lt, sem_le, sem_gt, sem_ge, sem_eq, sem_ne, sem_in, sem_ni, sem_ixL, sem_ixT, sem_ixS, sem_lenL, sem_lenT, sem_lenS, sem_abs, sem_max2, sem_min2, sem_tupL, sem_tupT, sem_listL, sem_listT, sem_sorted, sem_all, sem_intB, sem_intI, sem_isL, sem_mkL0, sem_mkL1, sem_mkL2, sem_mkL3, sem_mkT0, sem_mkT1, sem_mkT2, sem_mkT3, Mini.isLst, Mini.fill, Mini.refs, Mini.ref1, Mini.backR, Option.map_some, Mini.unpD, Mini.bindL, Mini.bindT, Mini.itemsD, Mini.recM, Mini.isNon, Mini.wOut, Mini.outsOf, Mini.own, List.take, true_and, and_true, if_true, Bool.false_eq_true, if_false, at3_0, at3_1, at3_2, at2_0, at2_1, ix3_0, ix3_1, ix3_2, List.length_cons, List.length_nil, List.set_cons_zero, List.set_cons_succ, Nat.zero_add, Nat.reduceAdd, sem_fdivS, sem_mulS, sem_mod])
        have fin : HdOk many ties waits (dn ++ [none]) (hd ++ [none]) ∧ (taken (dn ++ [none]) (hd ++ [none])).length ≤ (dn ++ [none]).length ∧ taken (dn ++ [none]) (hd ++ [none]) = taken dn hd := by
          have e5 : taken (dn ++ [none]) (hd ++ [none]) = taken dn hd := by
            rw [taken_app hhl.symm]
            show taken dn hd ++ [] = _
            rw [List.append_nil]
          refine ⟨⟨by simp [hhl], fun v hv => ?_, fun hw => by rw [e5]; exact hH.2.2 hw⟩, by rw [e5]; simp; omega, e5⟩
          rcases List.mem_append.mp hv with hv | hv
          · exact hH.2.1 v hv
          · cases List.mem_singleton.mp hv
        obtain ⟨f1, f2, f3⟩ := fin
        first
          | exact ⟨a, b, c, dn ++ [none], rs, hd ++ [none], _, _, _, by rw [e0, List.append_assoc]; rfl, rfl, by rw [f3], f1, f2⟩
          | (rw [wSs_nil]; exact ⟨a, b, c, dn ++ [none], rs, hd ++ [none], _, _, _, by rw [e0, List.append_assoc]; rfl, rfl, by rw [f3], f1, f2⟩)
      | some h =>
        obtain ⟨hr1, hr2⟩ := hS.1 h (by rw [e0]; simp)
        have eo := at_oss (oss := oss) hr1 (by omega)
        generalize hl : oss.getD h.toNat [] = l at eo
        have lp : l.Perm ((ties.filter fun p => decide (p.1 = h)).map (·.2)) := by
          rw [← hl]
          have := hO.2 h.toNat (by omega)
          rw [show (h.toNat : Int) = h from by omega] at this
          exact this
        have ll : l.length ≤ 20000 := by
          rw [lp.length_eq, List.length_map]
          exact Nat.le_trans (List.length_filter_le _ _) h3
        (rw [wSs_cons]; simp (maxSteps := 2000000) (disch := first | assumption | omega) only [oD, Bool.not_true, Bool.not_false, wSs_nil, wS_set, wS_unp, wS_sidx, wS_smt, wS_ex, wS_ret, wS_ite, wS_pass, wE_cst, wE_glb, wE_var, wE_sv, wE_mv, wE_rf, wE_frz, wE_op, wEs_nil, wEs_cons, wE_and, wE_or, wE_ite, wE_call, wE_bm, wE_pop, wK_none, wK_some, wR_seq, wR_rng1, wR_rng2, wR_zip, oS_some, bS_bl, iS_int, Mini.get, Mini.put, Mini.clear, Mini.back, Mini.scal, sem_neg, sem_not, sem_isN, sem_notN, sem_addI, sem_sub, sem_lt, sem_le, sem_gt, sem_ge, sem_eq, sem_ne, sem_in, sem_ni, sem_ixL, sem_ixT, sem_ixS, sem_lenL, sem_lenT, sem_lenS, sem_abs, sem_max2, sem_min2, sem_tupL, sem_tupT, sem_listL, sem_listT, sem_sorted, sem_all, sem_intB, sem_intI, sem_isL, sem_mkL0, sem_mkL1, sem_mkL2, sem_mkL3, sem_mkT0, sem_mkT1, sem_mkT2, sem_mkT3, Mini.isLst, Mini.fill, Mini.refs, Mini.ref1, Mini.backR, Option.map_some, Mini.unpD, Mini.bindL, Mini.bindT, Mini.itemsD, Mini.recM, Mini.isNon, Mini.wOut, Mini.outsOf, Mini.own, List.take, true_and, and_true, if_true, Bool.false_eq_true, if_false, at3_0, at3_1, at3_2, at2_0, at2_1, ix3_0, ix3_1, ix3_2, List.length_cons, List.length_nil, List.set_cons_zero, List.set_cons_succ, Nat.zero_add, Nat.reduceAdd, sem_fdivS, sem_mulS, sem_mod])
        rw [wSs_cons]
        simp (maxSteps := 2000000) (disch := first | assumption | omega) only [wSs_nil, wS_set, wS_unp, wS_sidx, wS_smt, wS_ex, wS_ret, wS_ite, wS_pass, wE_cst, wE_glb, wE_var, wE_sv, wE_mv, wE_rf, wE_frz, wE_op, wEs_nil, wEs_cons, wE_and, wE_or, wE_ite, wE_call, wE_bm, wE_pop, wK_none, wK_some, wR_seq, wR_rng1, wR_rng2, wR_zip, oS_some, bS_bl, iS_int, Mini.get, Mini.put, Mini.clear, Mini.back, Mini.scal, sem_neg, sem_not, sem_isN, sem_notN, sem_addI, sem_sub, sem_lt, sem_le, sem_gt, sem_ge, sem_eq, sem_ne, sem_in, sem_ni, sem_ixL, sem_ixT, sem_ixS, sem_lenL, sem_lenT, sem_lenS, sem_abs, sem_max2, sem_min2, sem_tupL, sem_tupT, sem_listL, sem_listT, sem_sorted, sem_all, sem_intB, sem_intI, sem_isL, sem_mkL0, sem_mkL1, sem_mkL2, sem_mkL3, sem_mkT0, sem_mkT1, sem_mkT2, sem_mkT3, Mini.isLst, Mini.fill, Mini.refs, Mini.ref1, Mini.backR, Option.map_some, Mini.unpD, Mini.bindL, Mini.bindT, Mini.itemsD, Mini.recM, Mini.isNon, Mini.wOut, Mini.outsOf, Mini.own, List.take, true_and, and_true, if_true, Bool.false_eq_true, if_false, at3_0, at3_1, at3_2, at2_0, at2_1, ix3_0, ix3_1, ix3_2, List.length_cons, List.length_nil, List.set_cons_zero, List.set_cons_succ, Nat.zero_add, Nat.reduceAdd, sem_fdivS, sem_mulS, sem_mod]
        refine wE_comp ?_
        simp (maxSteps := 2000000) (disch := first | assumption | omega) only [eo, wSs_nil, wS_set, wS_unp, wS_sidx, wS_smt, wS_ex, wS_ret, wS_ite, wS_pass, wE_cst, wE_glb, wE_var, wE_sv, wE_mv, wE_rf, wE_frz, wE_op, wEs_nil, wEs_cons, wE_and, wE_or, wE_ite, wE_call, wE_bm, wE_pop, wK_none, wK_some, wR_seq, wR_rng1, wR_rng2, wR_zip, oS_some, bS_bl, iS_int, Mini.get, Mini.put, Mini.clear, Mini.back, Mini.scal, sem_neg, sem_not, sem_isN, sem_notN, sem_addI, sem_sub, sem_lt, sem_le, sem_gt, sem_ge, sem_eq, sem_ne, sem_in, sem_ni, sem_ixL, sem_ixT, sem_ixS, sem_lenL, sem_lenT, sem_lenS, sem_abs, sem_max2, sem_min2, sem_tupL, sem_tupT, sem_listL, sem_listT, sem_sorted, sem_all, sem_intB, sem_intI, sem_isL, sem_mkL0, sem_mkL1, sem_mkL2, sem_mkL3, sem_mkT0, sem_mkT1, sem_mkT2, sem_mkT3, Mini.isLst, Mini.fill, Mini.refs, Mini.ref1, Mini.backR, Option.map_some, Mini.unpD, Mini.bindL, Mini.bindT, Mini.itemsD, Mini.recM, Mini.isNon, Mini.wOut, Mini.outsOf, Mini.own, List.take, true_and, and_true, if_true, Bool.false_eq_true, if_false, at3_0, at3_1, at3_2, at2_0, at2_1, ix3_0, ix3_1, ix3_2, List.length_cons, List.length_nil, List.set_cons_zero, List.set_cons_succ, Nat.zero_add, Nat.reduceAdd, sem_fdivS, sem_mulS, sem_mod]
        refine comp_fm l D.int (fun o => !decide ((h, o) ∈ taken dn hd)) D.int (by rw [limE]; omega) (fun o ho => ?_) ?_
        · have hc1 : inD (.tup [.int h, .int o]) (.lst ((taken dn hd).map prD)) = some (decide ((h, o) ∈ taken dn hd)) := in_prs (p := (h, o))
          simp (maxSteps := 2000000) (disch := first | assumption | omega) only [hc1, wSs_nil, wS_set, wS_unp, wS_sidx, wS_smt, wS_ex, wS_ret, wS_ite, wS_pass, wE_cst, wE_glb, wE_var, wE_sv, wE_mv, wE_rf, wE_frz, wE_op, wEs_nil, wEs_cons, wE_and, wE_or, wE_ite, wE_call, wE_bm, wE_pop, wK_none, wK_some, wR_seq, wR_rng1, wR_rng2, wR_zip, oS_some, bS_bl, iS_int, Mini.get, Mini.put, Mini.clear, Mini.back, Mini.scal, sem_neg, sem_not, sem_isN, sem_notN, sem_addI, sem_sub, sem_lt, sem_le, sem_gt, sem_ge, sem_eq, sem_ne, sem_in, sem_ni, sem_ixL, sem_ixT, sem_ixS, sem_lenL, sem_lenT, sem_lenS, sem_abs, sem_max2, sem_min2, sem_tupL, sem_tupT, sem_listL, sem_listT, sem_sorted, sem_all, sem_intB, sem_intI, sem_isL, sem_mkL0, sem_mkL1, sem_mkL2, sem_mkL3, sem_mkT0, sem_mkT1, sem_mkT2, sem_mkT3, Mini.isLst, Mini.fill, Mini.refs, Mini.ref1, Mini.backR, Option.map_some, Mini.unpD, Mini.bindL, Mini.bindT, Mini.itemsD, Mini.recM, Mini.isNon, Mini.wOut, Mini.outsOf, Mini.own, List.take, true_and, and_true, if_true, Bool.false_eq_true, if_false, at3_0, at3_1, at3_2, at2_0, at2_1, ix3_0, ix3_1, ix3_2, List.length_cons, List.length_nil, List.set_cons_zero, List.set_cons_succ, Nat.zero_add, Nat.reduceAdd, sem_fdivS, sem_mulS, sem_mod]
          cases decide ((h, o) ∈ taken dn hd) <;> simp
        · generalize hF : l.filter (fun o => !decide ((h, o) ∈ taken dn hd)) = Fl
          have hFl : Fl.length ≤ 20000 := by
            rw [← hF]
            exact Nat.le_trans (List.length_filter_le _ _) ll
          generalize hW : (if waits = true then [h] else []) = Wl
          have hWl : Wl.length ≤ 1 := by
            rw [← hW]
            split <;> simp
          have hrep : sem .rep [.lst [.int h], .int (if waits = true then 1 else 0)] = some (.lst (Wl.map .int)) := by
            rw [rep_if, hW]
          have hcat : sem .cat [.lst (Fl.map .int), .lst (Wl.map .int)] = some (.lst ((Fl ++ Wl).map .int)) := by
            rw [sem_cat (by rw [List.length_map, List.length_map, limE]; omega), List.map_append]
          simp (maxSteps := 2000000) (disch := first | assumption | omega) only [hrep, hcat, wSs_nil, wS_set, wS_unp, wS_sidx, wS_smt, wS_ex, wS_ret, wS_ite, wS_pass, wE_cst, wE_glb, wE_var, wE_sv, wE_mv, wE_rf, wE_frz, wE_op, wEs_nil, wEs_cons, wE_and, wE_or, wE_ite, wE_call, wE_bm, wE_pop, wK_none, wK_some, wR_seq, wR_rng1, wR_rng2, wR_zip, oS_some, bS_bl, iS_int, Mini.get, Mini.put, Mini.clear, Mini.back, Mini.scal, sem_neg, sem_not, sem_isN, sem_notN, sem_addI, sem_sub, sem_lt, sem_le, sem_gt, sem_ge, sem_eq, sem_ne, sem_in, sem_ni, sem_ixL, sem_ixT, sem_ixS, sem_lenL, sem_lenT, sem_lenS, sem_abs, sem_max2, sem_min2, sem_tupL, sem_tupT, sem_listL, sem_listT, sem_sorted, sem_all, sem_intB, sem_intI, sem_isL, sem_mkL0, sem_mkL1, sem_mkL2, sem_mkL3, sem_mkT0, sem_mkT1, sem_mkT2, sem_mkT3, Mini.isLst, Mini.fill, Mini.refs, Mini.ref1, Mini.backR, Option.map_some, Mini.unpD, Mini.bindL, Mini.bindT, Mini.itemsD, Mini.recM, Mini.isNon, Mini.wOut, Mini.outsOf, Mini.own, List.take, true_and, and_true, if_true, Bool.false_eq_true, if_false, at3_0, at3_1, at3_2, at2_0, at2_1, ix3_0, ix3_1, ix3_2, List.length_cons, List.length_nil, List.set_cons_zero, List.set_cons_succ, Nat.zero_add, Nat.reduceAdd, sem_fdivS, sem_mulS, sem_mod]
          have hpos : 0 < (Fl ++ Wl).length := by
            cases waits with
            | true =>
              rw [if_pos rfl] at hW
              rw [← hW]
              simp
            | false =>
              have h9 : (taken dn hd).countP (fun p => decide (p.1 = h)) < l.length := by
                refine Nat.lt_of_le_of_lt (taken_cnt h) ?_
                have h10 := hS.2 rfl h
                rw [← len_out hO hr1 hr2, hl, e0] at h10
                unfold cnt at h10 ⊢
                rw [List.countP_append, List.countP_cons] at h10
                simp at h10
                omega
              have := free_tie lp hB.1 h9
              rw [hF] at this
              have := List.length_pos_iff.mpr this
              rw [List.length_append]
              omega
          generalize hY : Fl ++ Wl = Y at hpos
          have hYl : Y.length ≤ 20001 := by
            rw [← hY, List.length_append]
            omega
          (rw [wSs_cons]; simp (maxSteps := 2000000) (disch := first | assumption | omega) only [List.length_map, wSs_nil, wS_set, wS_unp, wS_sidx, wS_smt, wS_ex, wS_ret, wS_ite, wS_pass, wE_cst, wE_glb, wE_var, wE_sv, wE_mv, wE_rf, wE_frz, wE_op, wEs_nil, wEs_cons, wE_and, wE_or, wE_ite, wE_call, wE_bm, wE_pop, wK_none, wK_some, wR_seq, wR_rng1, wR_rng2, wR_zip, oS_some, bS_bl, iS_int, Mini.get, Mini.put, Mini.clear, Mini.back, Mini.scal, sem_neg, sem_not, sem_isN, sem_notN, sem_addI, sem_sub, sem_lt, sem_le, sem_gt, sem_ge, sem_eq, sem_ne, sem_in, sem_ni, sem_ixL, sem_ixT, sem_ixS, sem_lenL, sem_lenT, sem_lenS, sem_abs, sem_max2, sem_min2, sem_tupL, sem_tupT, sem_listL, sem_listT, sem_sorted, sem_all, sem_intB, sem_intI, sem_isL, sem_mkL0, sem_mkL1, sem_mkL2, sem_mkL3, sem_mkT0, sem_mkT1, sem_mkT2, sem_mkT3, Mini.isLst, Mini.fill, Mini.refs, Mini.ref1, Mini.backR, Option.map_some, Mini.unpD, Mini.bindL, Mini.bindT, Mini.itemsD, Mini.recM, Mini.isNon, Mini.wOut, Mini.outsOf, Mini.own, List.take, true_and, and_true, if_true, Bool.false_eq_true, if_false, at3_0, at3_1, at3_2, at2_0, at2_1, ix3_0, ix3_1, ix3_2, List.length_cons, List.length_nil, List.set_cons_zero, List.set_cons_succ, Nat.zero_add, Nat.reduceAdd, sem_fdivS, sem_mulS, sem_mod])
          refine wC_mono (take_ok n a b c _ (by omega) (by omega)) ?_
          rintro d os ⟨r, a, b, c, rfl, r1, r2, rfl⟩
          have er := at_ints (t := Y) (x := r) r1 r2
          generalize hg : Y.getD r.toNat 0 = g at er
          have gm : g ∈ Y := by
            rw [← hg]
            exact getD_mem (by omega)
          have hgr : (0 ≤ g ∧ g < many) ∧ (waits = false → (h, g) ∉ taken dn hd ∧ (h, g) ∈ ties) := by
            rw [← hY] at gm
            rcases List.mem_append.mp gm with gm | gm
            · rw [← hF] at gm
              obtain ⟨g1, g2⟩ := List.mem_filter.mp gm
              obtain ⟨p, hp, rfl⟩ := List.mem_map.mp (lp.mem_iff.mp g1)
              obtain ⟨hp1, hp2⟩ := List.mem_filter.mp hp
              have hp2 := of_decide_eq_true hp2
              refine ⟨(hB.2.1 p hp1).2, fun _ => ⟨fun z => by simp [z] at g2, ?_⟩⟩
              rw [← hp2]
              exact hp1
            · rw [← hW] at gm
              split at gm
              · rename_i hw
                rw [List.mem_singleton.mp gm]
                exact ⟨⟨hr1, hr2⟩, fun h => by rw [hw] at h; cases h⟩
              · cases gm
          have ea : mopD .append (hd.map oD) [.int g] = some ((hd ++ [some g]).map oD) := app_o (o := some g) (by omega)
          simp (maxSteps := 2000000) (disch := first | assumption | omega) only [er, wSs_nil, wS_set, wS_unp, wS_sidx, wS_smt, wS_ex, wS_ret, wS_ite, wS_pass, wE_cst, wE_glb, wE_var, wE_sv, wE_mv, wE_rf, wE_frz, wE_op, wEs_nil, wEs_cons, wE_and, wE_or, wE_ite, wE_call, wE_bm, wE_pop, wK_none, wK_some, wR_seq, wR_rng1, wR_rng2, wR_zip, oS_some, bS_bl, iS_int, Mini.get, Mini.put, Mini.clear, Mini.back, Mini.scal, sem_neg, sem_not, sem_isN, sem_notN, sem_addI, sem_sub, sem_lt, sem_le, sem_gt, sem_ge, sem_eq, sem_ne, sem_in, sem_ni, sem_ixL, sem_ixT, sem_ixS, sem_lenL, sem_lenT, sem_lenS, sem_abs, sem_max2, sem_min2, sem_tupL, sem_tupT, sem_listL, sem_listT, sem_sorted, sem_all, sem_intB, sem_intI, sem_isL, sem_mkL0, sem_mkL1, sem_mkL2, sem_mkL3, sem_mkT0, sem_mkT1, sem_mkT2, sem_mkT3, Mini.isLst, Mini.fill, Mini.refs, Mini.ref1, Mini.backR, Option.map_some, Mini.unpD, Mini.bindL, Mini.bindT, Mini.itemsD, Mini.recM, Mini.isNon, Mini.wOut, Mini.outsOf, Mini.own, List.take, true_and, and_true, if_true, Bool.false_eq_true, if_false, at3_0, at3_1, at3_2, at2_0, at2_1, ix3_0, ix3_1, ix3_2, List.length_cons, List.length_nil, List.set_cons_zero, List.set_cons_succ, Nat.zero_add, Nat.reduceAdd, sem_fdivS, sem_mulS, sem_mod]
          (rw [wSs_cons]; simp (maxSteps := 2000000) (disch := first | assumption | omega) only [app_prs, wSs_nil, wS_set, wS_unp, wS_sidx, wS_smt, wS_ex, wS_ret, wS_ite, wS_pass, wE_cst, wE_glb, wE_var, wE_sv, wE_mv, wE_rf, wE_frz, wE_op, wEs_nil, wEs_cons, wE_and, wE_or, wE_ite, wE_call, wE_bm, wE_pop, wK_none, wK_some, wR_seq, wR_rng1, wR_rng2, wR_zip, oS_some, bS_bl, iS_int, Mini.get, Mini.put, Mini.clear, Mini.back, Mini.scal, sem_neg, sem_not, sem_isN, sem_notN, sem_addI, sem_sub, sem_lt, sem_le, sem_gt, sem_ge, sem_eq, sem_ne, sem_in, sem_ni, sem_ixL, sem_ixT, sem_ixS, sem_lenL, sem_lenT, sem_lenS, sem_abs, sem_max2, sem_min2, sem_tupL, sem_tupT, sem_listL, sem_listT, sem_sorted, sem_all, sem_intB, sem_intI, sem_isL, sem_mkL0, sem_mkL1, sem_mkL2, sem_mkL3, sem_mkT0, sem_mkT1, sem_mkT2, sem_mkT3, Mini.isLst, Mini.fill, Mini.refs, Mini.ref1, Mini.backR, Option.map_some, Mini.unpD, Mini.bindL, Mini.bindT, Mini.itemsD, Mini.recM, Mini.isNon, Mini.wOut, Mini.outsOf, Mini.own, List.take, true_and, and_true, if_true, Bool.false_eq_true, if_false, at3_0, at3_1, at3_2, at2_0, at2_1, ix3_0, ix3_1, ix3_2, List.length_cons, List.length_nil, List.set_cons_zero, List.set_cons_succ, Nat.zero_add, Nat.reduceAdd, sem_fdivS, sem_mulS, sem_mod])
          try rw [wSs_nil]
          (rw [wSs_cons]; simp (maxSteps := 2000000) (disch := first | assumption | omega) only [ea, wSs_nil, wS_set, wS_unp, wS_sidx, wS_smt, wS_ex, wS_ret, wS_ite, wS_pass, wE_cst, wE_glb, wE_var, wE_sv, wE_mv, wE_rf, wE_frz, wE_op, wEs_nil, wEs_cons, wE_and, wE_or, wE_ite, wE_call, wE_bm, wE_pop, wK_none, wK_some, wR_seq, wR_rng1, wR_rng2, wR_zip, oS_some, bS_bl, iS_int, Mini.get, Mini.put, Mini.clear, Mini.back, Mini.scal, sem_neg, sem_not, sem_isN, sem_notN, sem_addI, sem_sub, sem_lt, sem_le, sem_gt, sem_ge, sem_eq, sem_ne, sem_in, sem_ni, sem_ixL, sem_ixT, sem_ixS, sem_lenL, sem_lenT, sem_lenS, sem_abs, sem_max2, sem_min2, sem_tupL, sem_tupT, sem_listL, sem_listT, sem_sorted, sem_all, sem_intB, sem_intI, sem_isL, sem_mkL0, sem_mkL1, sem_mkL2, sem_mkL3, sem_mkT0, sem_mkT1, sem_mkT2, sem_mkT3, Mini.isLst, Mini.fill, Mini.refs, Mini.ref1, Mini.backR, Option.map_some, Mini.unpD, Mini.bindL, Mini.bindT, Mini.itemsD, Mini.recM, Mini.isNon, Mini.wOut, Mini.outsOf, Mini.own, List.take, true_and, and_true, if_true, Bool.false_eq_true, if_false, at3_0, at3_1, at3_2, at2_0, at2_1, ix3_0, ix3_1, ix3_2, List.length_cons, List.length_nil, List.set_cons_zero, List.set_cons_succ, Nat.zero_add, Nat.reduceAdd, sem_fdivS, sem_mulS, sem_mod])
          have e5 : taken (dn ++ [some h]) (hd ++ [some g]) = taken dn hd ++ [(h, g)] := taken_app hhl.symm
          have f1 : HdOk many ties waits (dn ++ [some h]) (hd ++ [some g]) := by
            refine ⟨by simp [hhl], fun v hv => ?_, fun hw => ?_⟩
            · rcases List.mem_append.mp hv with hv | hv
              · exact hH.2.1 v hv
              · cases List.mem_singleton.mp hv
                exact hgr.1
            · obtain ⟨z1, z2⟩ := hH.2.2 hw
              obtain ⟨z3, z4⟩ := hgr.2 hw
              rw [e5]
              refine ⟨List.nodup_append.mpr ⟨z1, by simp, fun x hx y hy e => ?_⟩, fun p hp => ?_⟩
              · rw [List.mem_singleton.mp hy] at e
                exact z3 (e ▸ hx)
              · rcases List.mem_append.mp hp with hp | hp
                · exact z2 p hp
                · rw [List.mem_singleton.mp hp]
                  exact z4
          have f2 : (taken (dn ++ [some h]) (hd ++ [some g])).length ≤ (dn ++ [some h]).length := by
            rw [e5]
            simp
            omega
          first
            | exact ⟨a, b, c, dn ++ [some h], rs, hd ++ [some g], _, _, _, by rw [e0, List.append_assoc]; rfl, rfl, by rw [e5], f1, f2⟩
            | (rw [wSs_nil]; exact ⟨a, b, c, dn ++ [some h], rs, hd ++ [some g], _, _, _, by rw [e0, List.append_assoc]; rfl, rfl, by rw [e5], f1, f2⟩)
  · rintro s ⟨a, b, c, dn, rs, hd, x6, x7, x8, e0, e1, rfl, hH, hTl⟩
    cases rs with
    | cons _ _ => cases e1
    | nil =>
      rw [List.append_nil] at e0
      subst e0
      (rw [wSs_cons]; simp (maxSteps := 2000000) (disch := first | assumption | omega) only [wSs_nil, wS_set, wS_unp, wS_sidx, wS_smt, wS_ex, wS_ret, wS_ite, wS_pass, wE_cst, wE_glb, wE_var, wE_sv, wE_mv, wE_rf, wE_frz, wE_op, wEs_nil, wEs_cons, wE_and, wE_or, wE_ite, wE_call, wE_bm, wE_pop, wK_none, wK_some, wR_seq, wR_rng1, wR_rng2, wR_zip, oS_some, bS_bl, iS_int, Mini.get, Mini.put, Mini.clear, Mini.back, Mini.scal, sem_neg, sem_not, sem_isN, sem_notN, sem_addI, sem_sub, sem_lt, sem_le, sem_gt, sem_ge, sem_eq, sem_ne, sem_in, sem_ni, sem_ixL, sem_ixT, sem_ixS, sem_lenL, sem_lenT, sem_lenS, sem_abs, sem_max2, sem_min2, sem_tupL, sem_tupT, sem_listL, sem_listT, sem_sorted, sem_all, sem_intB, sem_intI, sem_isL, sem_mkL0, sem_mkL1, sem_mkL2, sem_mkL3, sem_mkT0, sem_mkT1, sem_mkT2, sem_mkT3, Mini.isLst, Mini.fill, Mini.refs, Mini.ref1, Mini.backR, Option.map_some, Mini.unpD, Mini.bindL, Mini.bindT, Mini.itemsD, Mini.recM, Mini.isNon, Mini.wOut, Mini.outsOf, Mini.own, List.take, true_and, and_true, if_true, Bool.false_eq_true, if_false, at3_0, at3_1, at3_2, at2_0, at2_1, ix3_0, ix3_1, ix3_2, List.length_cons, List.length_nil, List.set_cons_zero, List.set_cons_succ, Nat.zero_add, Nat.reduceAdd, sem_fdivS, sem_mulS, sem_mod])
      exact ⟨hd, a, b, c, rfl, hH, rfl⟩
end Lk51

namespace Lk51
open Mini
def b1 (h : Int) (s d : Option Int) : Option Int := if (s.isNone || decide (d = some h)) = true then none else d
def bh : List Int → List (Option Int) → List (Option Int) → List (Option Int)
  | h :: hs, s :: ss, d :: ds => b1 h s d :: bh hs ss ds
  | _, _, _ => []
theorem bh_len : ∀ {hs : List Int} {ss ds : List (Option Int)}, ss.length = hs.length → ds.length = hs.length → (bh hs ss ds).length = hs.length
  | [], _, _, _, _ => by simp [bh]
  | _ :: _, [], _, h, _ => by cases h
  | _ :: _, _ :: _, [], _, h => by cases h
  | h :: hs, s :: ss, d :: ds, h1, h2 => by
    show (bh hs ss ds).length + 1 = hs.length + 1
    rw [bh_len (Nat.succ.inj h1) (Nat.succ.inj h2)]
theorem bh_get : ∀ {hs : List Int} {ss ds : List (Option Int)} {i : Nat} {h : Int} {s d : Option Int}, hs[i]? = some h → ss[i]? = some s → ds[i]? = some d → (bh hs ss ds)[i]? = some (b1 h s d)
  | [], _, _, _, _, _, _, h, _, _ => by simp at h
  | _ :: _, [], _, _, _, _, _, _, h, _ => by simp at h
  | _ :: _, _ :: _, [], _, _, _, _, _, _, h => by simp at h
  | x :: hs, y :: ss, z :: ds, 0, h, s, d, h1, h2, h3 => by
    simp at h1 h2 h3
    subst h1 h2 h3
    rfl
  | x :: hs, y :: ss, z :: ds, i + 1, h, s, d, h1, h2, h3 => by
    show (bh hs ss ds)[i]? = _
    exact bh_get (by simpa using h1) (by simpa using h2) (by simpa using h3)
theorem at_o {l : List (Option Int)} {i : Nat} {o : Option Int} (h : l[i]? = some o) : atD (l.map oD) (0 + (i : Int)) = some (oD o) := by
  rw [Int.zero_add]
  exact atD_nat (by rw [List.getElem?_map, h]; rfl)
theorem at_i {l : List Int} {i : Nat} {o : Int} (h : l[i]? = some o) : atD (l.map .int) (0 + (i : Int)) = some (.int o) := by
  rw [Int.zero_add]
  exact atD_nat (by rw [List.getElem?_map, h]; rfl)
theorem oD_n : oD none = .non := rfl
theorem oD_s {i : Int} : oD (some i) = .int i := rfl
theorem isNon_o {o : Option Int} : isNon (oD o) = o.isNone := by cases o <;> rfl
theorem eqD_oi {o : Option Int} {i : Int} : eqD (oD o) (.int i) = some (decide (o = some i)) := eqD_o (b := some i)
theorem behind_ok (n : Nat) (hs : List Int) (st hd : List (Option Int)) (h1 : st.length = hs.length) (h2 : hd.length = hs.length) (h3 : hs.length ≤ 100) :
    wC (callF fds (n + 1) 16 [.tup (hs.map .int), .tup (st.map oD), .tup (hd.map oD)]) fun d os => d = .tup ((bh hs st hd).map oD) ∧ os = [none, none, none] := by
  refine wC_call (fd := f16) rfl rfl ?_
  show wSs (callF fds n) f16.body [some (.tup (hs.map .int)), some (.tup (st.map oD)), some (.tup (hd.map oD)), none, none, none] _ _
  simp only [f16]
  (rw [wSs_cons]; simp (maxSteps := 2000000) (disch := first | assumption | omega) only [wSs_nil, wS_set, wS_unp, wS_sidx, wS_smt, wS_ex, wS_ret, wS_ite, wS_pass, wE_cst, wE_glb, wE_var, wE_sv, wE_mv, wE_rf, wE_frz, wE_op, wEs_nil, wEs_cons, wE_and, wE_or, wE_ite, wE_call, wE_bm, wE_pop, wK_none, wK_some, wR_seq, wR_rng1, wR_rng2, wR_zip, oS_some, bS_bl, iS_int, Mini.get, Mini.put, Mini.clear, Mini.back, Mini.scal, sem_neg, sem_not, sem_isN, sem_notN, sem_addI, sem_sub, sem_lt, sem_le, sem_gt, sem_ge, sem_eq, sem_ne, sem_in, sem_ni, sem_ixL, sem_ixT, sem_ixS, sem_lenL, sem_lenT, sem_lenS, sem_abs, sem_max2, sem_min2, sem_tupL, sem_tupT, sem_listL, sem_listT, sem_sorted, sem_all, sem_intB, sem_intI, sem_isL, sem_mkL0, sem_mkL1, sem_mkL2, sem_mkL3, sem_mkT0, sem_mkT1, sem_mkT2, sem_mkT3, Mini.isLst, Mini.fill, Mini.refs, Mini.ref1, Mini.backR, Option.map_some, Mini.unpD, Mini.bindL, Mini.bindT, Mini.itemsD, Mini.recM, Mini.isNon, Mini.wOut, Mini.outsOf, Mini.own, List.take, true_and, and_true, if_true, Bool.false_eq_true, if_false, at3_0, at3_1, at3_2, at2_0, at2_1, ix3_0, ix3_1, ix3_2, List.length_cons, List.length_nil, List.set_cons_zero, List.set_cons_succ, Nat.zero_add, Nat.reduceAdd, sem_fdivS, sem_mulS, sem_mod])
  rw [wSs_cons]
  refine wS_for ?_
  simp (maxSteps := 2000000) (disch := first | assumption | omega) only [List.length_map, wSs_nil, wS_set, wS_unp, wS_sidx, wS_smt, wS_ex, wS_ret, wS_ite, wS_pass, wE_cst, wE_glb, wE_var, wE_sv, wE_mv, wE_rf, wE_frz, wE_op, wEs_nil, wEs_cons, wE_and, wE_or, wE_ite, wE_call, wE_bm, wE_pop, wK_none, wK_some, wR_seq, wR_rng1, wR_rng2, wR_zip, oS_some, bS_bl, iS_int, Mini.get, Mini.put, Mini.clear, Mini.back, Mini.scal, sem_neg, sem_not, sem_isN, sem_notN, sem_addI, sem_sub, sem_lt, sem_le, sem_gt, sem_ge, sem_eq, sem_ne, sem_in, sem_ni, sem_ixL, sem_ixT, sem_ixS, sem_lenL, sem_lenT, sem_lenS, sem_abs, sem_max2, sem_min2, sem_tupL, sem_tupT, sem_listL, sem_listT, sem_sorted, sem_all, sem_intB, sem_intI, sem_isL, sem_mkL0, sem_mkL1, sem_mkL2, sem_mkL3, sem_mkT0, sem_mkT1, sem_mkT2, sem_mkT3, Mini.isLst, Mini.fill, Mini.refs, Mini.ref1, Mini.backR, Option.map_some, Mini.unpD, Mini.bindL, Mini.bindT, Mini.itemsD, Mini.recM, Mini.isNon, Mini.wOut, Mini.outsOf, Mini.own, List.take, true_and, and_true, if_true, Bool.false_eq_true, if_false, at3_0, at3_1, at3_2, at2_0, at2_1, ix3_0, ix3_1, ix3_2, List.length_cons, List.length_nil, List.set_cons_zero, List.set_cons_succ, Nat.zero_add, Nat.reduceAdd, sem_fdivS, sem_mulS, sem_mod]
  refine ⟨by omega, ?_⟩
  rw [Int.toNat_natCast]
  refine rng_loop (fun i s => ∃ x4 x5 : Option D, s = [some (.tup (hs.map .int)), some (.tup (st.map oD)), some (.tup (hd.map oD)), some (.lst (((bh hs st hd).take i).map oD)), x4, x5]) ⟨none, none, rfl⟩ ?_ ?_
  · rintro i s hi ⟨x4, x5, rfl⟩
    have g1 : hs[i]? = some hs[i] := List.getElem?_eq_getElem hi
    have g2 : st[i]? = some st[i] := List.getElem?_eq_getElem (by omega)
    have g3 : hd[i]? = some hd[i] := List.getElem?_eq_getElem (by omega)
    generalize hs[i] = a at g1
    generalize st[i] = b at g2
    generalize hd[i] = c at g3
    have e1 := at_i g1
    have e2 := at_o g2
    have e3 := at_o g3
    have e4 := bh_get g1 g2 g3
    have ea : ∀ o : Option Int, mopD .append (((bh hs st hd).take i).map oD) [oD o] = some (((bh hs st hd).take i ++ [o]).map oD) := fun o => app_o (by rw [List.length_take]; omega)
    have en : mopD .append (((bh hs st hd).take i).map oD) [.non] = some (((bh hs st hd).take i ++ [none]).map oD) := ea none
    have et : (bh hs st hd).take (i + 1) = (bh hs st hd).take i ++ [b1 a b c] := by
      rw [List.take_succ, e4]
      rfl
    rw [et]
    simp (maxSteps := 2000000) (disch := first | assumption | omega) only [wSs_nil, wS_set, wS_unp, wS_sidx, wS_smt, wS_ex, wS_ret, wS_ite, wS_pass, wE_cst, wE_glb, wE_var, wE_sv, wE_mv, wE_rf, wE_frz, wE_op, wEs_nil, wEs_cons, wE_and, wE_or, wE_ite, wE_call, wE_bm, wE_pop, wK_none, wK_some, wR_seq, wR_rng1, wR_rng2, wR_zip, oS_some, bS_bl, iS_int, Mini.get, Mini.put, Mini.clear, Mini.back, Mini.scal, sem_neg, sem_not, sem_isN, sem_notN, sem_addI, sem_sub, sem_lt, sem_le, sem_gt, sem_ge, sem_eq, sem_ne, sem_in, sem_ni, sem_ixL, sem_ixT, sem_ixS, sem_lenL, sem_lenT, sem_lenS, sem_abs, sem_max2, sem_min2, sem_tupL, sem_tupT, sem_listL, sem_listT, sem_sorted, sem_all, sem_intB, sem_intI, sem_isL, sem_mkL0, sem_mkL1, sem_mkL2, sem_mkL3, sem_mkT0, sem_mkT1, sem_mkT2, sem_mkT3, Mini.isLst, Mini.fill, Mini.refs, Mini.ref1, Mini.backR, Option.map_some, Mini.unpD, Mini.bindL, Mini.bindT, Mini.itemsD, Mini.recM, Mini.isNon, Mini.wOut, Mini.outsOf, Mini.own, List.take, true_and, and_true, if_true, Bool.false_eq_true, if_false, at3_0, at3_1, at3_2, at2_0, at2_1, ix3_0, ix3_1, ix3_2, List.length_cons, List.length_nil, List.set_cons_zero, List.set_cons_succ, Nat.zero_add, Nat.reduceAdd, sem_fdivS, sem_mulS, sem_mod]
    unfold b1
    cases b with
    | none =>
      (rw [wSs_cons]; simp (maxSteps := 2000000) (disch := first | assumption | omega) only [e1, e2, e3, oD_n, oD_s, Option.isNone_none, Bool.true_or, wSs_nil, wS_set, wS_unp, wS_sidx, wS_smt, wS_ex, wS_ret, wS_ite, wS_pass, wE_cst, wE_glb, wE_var, wE_sv, wE_mv, wE_rf, wE_frz, wE_op, wEs_nil, wEs_cons, wE_and, wE_or, wE_ite, wE_call, wE_bm, wE_pop, wK_none, wK_some, wR_seq, wR_rng1, wR_rng2, wR_zip, oS_some, bS_bl, iS_int, Mini.get, Mini.put, Mini.clear, Mini.back, Mini.scal, sem_neg, sem_not, sem_isN, sem_notN, sem_addI, sem_sub, sem_lt, sem_le, sem_gt, sem_ge, sem_eq, sem_ne, sem_in, sem_ni, sem_ixL, sem_ixT, sem_ixS, sem_lenL, sem_lenT, sem_lenS, sem_abs, sem_max2, sem_min2, sem_tupL, sem_tupT, sem_listL, sem_listT, sem_sorted, sem_all, sem_intB, sem_intI, sem_isL, sem_mkL0, sem_mkL1, sem_mkL2, sem_mkL3, sem_mkT0, sem_mkT1, sem_mkT2, sem_mkT3, Mini.isLst, Mini.fill, Mini.refs, Mini.ref1, Mini.backR, Option.map_some, Mini.unpD, Mini.bindL, Mini.bindT, Mini.itemsD, Mini.recM, Mini.isNon, Mini.wOut, Mini.outsOf, Mini.own, List.take, true_and, and_true, if_true, Bool.false_eq_true, if_false, at3_0, at3_1, at3_2, at2_0, at2_1, ix3_0, ix3_1, ix3_2, List.length_cons, List.length_nil, List.set_cons_zero, List.set_cons_succ, Nat.zero_add, Nat.reduceAdd, sem_fdivS, sem_mulS, sem_mod])
      (rw [wSs_cons]; simp (maxSteps := 2000000) (disch := first | assumption | omega) only [e1, e2, e3, en, wSs_nil, wS_set, wS_unp, wS_sidx, wS_smt, wS_ex, wS_ret, wS_ite, wS_pass, wE_cst, wE_glb, wE_var, wE_sv, wE_mv, wE_rf, wE_frz, wE_op, wEs_nil, wEs_cons, wE_and, wE_or, wE_ite, wE_call, wE_bm, wE_pop, wK_none, wK_some, wR_seq, wR_rng1, wR_rng2, wR_zip, oS_some, bS_bl, iS_int, Mini.get, Mini.put, Mini.clear, Mini.back, Mini.scal, sem_neg, sem_not, sem_isN, sem_notN, sem_addI, sem_sub, sem_lt, sem_le, sem_gt, sem_ge, sem_eq, sem_ne, sem_in, sem_ni, sem_ixL, sem_ixT, sem_ixS, sem_lenL, sem_lenT, sem_lenS, sem_abs, sem_max2, sem_min2, sem_tupL, sem_tupT, sem_listL, sem_listT, sem_sorted, sem_all, sem_intB, sem_intI, sem_isL, sem_mkL0, sem_mkL1, sem_mkL2, sem_mkL3, sem_mkT0, sem_mkT1, sem_mkT2, sem_mkT3, Mini.isLst, Mini.fill, Mini.refs, Mini.ref1, Mini.backR, Option.map_some, Mini.unpD, Mini.bindL, Mini.bindT, Mini.itemsD, Mini.recM, Mini.isNon, Mini.wOut, Mini.outsOf, Mini.own, List.take, true_and, and_true, if_true, Bool.false_eq_true, if_false, at3_0, at3_1, at3_2, at2_0, at2_1, ix3_0, ix3_1, ix3_2, List.length_cons, List.length_nil, List.set_cons_zero, List.set_cons_succ, Nat.zero_add, Nat.reduceAdd, sem_fdivS, sem_mulS, sem_mod])
      first
        | exact ⟨_, _, rfl⟩
        | (rw [wSs_nil]; exact ⟨_, _, rfl⟩)
    | some b =>
      (rw [wSs_cons]; simp (maxSteps := 2000000) (disch := first | assumption | omega) only [e1, e2, e3, oD_n, oD_s, eqD_oi, Option.isNone_some, Bool.false_or, wSs_nil, wS_set, wS_unp, wS_sidx, wS_smt, wS_ex, wS_ret, wS_ite, wS_pass, wE_cst, wE_glb, wE_var, wE_sv, wE_mv, wE_rf, wE_frz, wE_op, wEs_nil, wEs_cons, wE_and, wE_or, wE_ite, wE_call, wE_bm, wE_pop, wK_none, wK_some, wR_seq, wR_rng1, wR_rng2, wR_zip, oS_some, bS_bl, iS_int, Mini.get, Mini.put, Mini.clear, Mini.back, Mini.scal, sem_neg, sem_not, sem_isN, sem_notN, sem_addI, sem_sub, sem_lt, sem_le, sem_gt, sem_ge, sem_eq, sem_ne, sem_in, sem_ni, sem_ixL, sem_ixT, sem_ixS, sem_lenL, sem_lenT, sem_lenS, sem_abs, sem_max2, sem_min2, sem_tupL, sem_tupT, sem_listL, sem_listT, sem_sorted, sem_all, sem_intB, sem_intI, sem_isL, sem_mkL0, sem_mkL1, sem_mkL2, sem_mkL3, sem_mkT0, sem_mkT1, sem_mkT2, sem_mkT3, Mini.isLst, Mini.fill, Mini.refs, Mini.ref1, Mini.backR, Option.map_some, Mini.unpD, Mini.bindL, Mini.bindT, Mini.itemsD, Mini.recM, Mini.isNon, Mini.wOut, Mini.outsOf, Mini.own, List.take, true_and, and_true, if_true, Bool.false_eq_true, if_false, at3_0, at3_1, at3_2, at2_0, at2_1, ix3_0, ix3_1, ix3_2, List.length_cons, List.length_nil, List.set_cons_zero, List.set_cons_succ, Nat.zero_add, Nat.reduceAdd, sem_fdivS, sem_mulS, sem_mod])
      cases hc : decide (c = some a) with
      | true =>
        (rw [wSs_cons]; simp (maxSteps := 2000000) (disch := first | assumption | omega) only [e1, e2, e3, en, wSs_nil, wS_set, wS_unp, wS_sidx, wS_smt, wS_ex, wS_ret, wS_ite, wS_pass, wE_cst, wE_glb, wE_var, wE_sv, wE_mv, wE_rf, wE_frz, wE_op, wEs_nil, wEs_cons, wE_and, wE_or, wE_ite, wE_call, wE_bm, wE_pop, wK_none, wK_some, wR_seq, wR_rng1, wR_rng2, wR_zip, oS_some, bS_bl, iS_int, Mini.get, Mini.put, Mini.clear, Mini.back, Mini.scal, sem_neg, sem_not, sem_isN, sem_notN, sem_addI, sem_sub, sem_lt, sem_le, sem_gt, sem_ge, sem_eq, sem_ne, sem_in, sem_ni, sem_ixL, sem_ixT, sem_ixS, sem_lenL, sem_lenT, sem_lenS, sem_abs, sem_max2, sem_min2, sem_tupL, sem_tupT, sem_listL, sem_listT, sem_sorted, sem_all, sem_intB, sem_intI, sem_isL, sem_mkL0, sem_mkL1, sem_mkL2, sem_mkL3, sem_mkT0, sem_mkT1, sem_mkT2, sem_mkT3, Mini.isLst, Mini.fill, Mini.refs, Mini.ref1, Mini.backR, Option.map_some, Mini.unpD, Mini.bindL, Mini.bindT, Mini.itemsD, Mini.recM, Mini.isNon, Mini.wOut, Mini.outsOf, Mini.own, List.take, true_and, and_true, if_true, Bool.false_eq_true, if_false, at3_0, at3_1, at3_2, at2_0, at2_1, ix3_0, ix3_1, ix3_2, List.length_cons, List.length_nil, List.set_cons_zero, List.set_cons_succ, Nat.zero_add, Nat.reduceAdd, sem_fdivS, sem_mulS, sem_mod])
        first
          | exact ⟨_, _, rfl⟩
          | (rw [wSs_nil]; exact ⟨_, _, rfl⟩)
      | false =>
        (rw [wSs_cons]; simp (maxSteps := 2000000) (disch := first | assumption | omega) only [e1, e2, e3, ea, wSs_nil, wS_set, wS_unp, wS_sidx, wS_smt, wS_ex, wS_ret, wS_ite, wS_pass, wE_cst, wE_glb, wE_var, wE_sv, wE_mv, wE_rf, wE_frz, wE_op, wEs_nil, wEs_cons, wE_and, wE_or, wE_ite, wE_call, wE_bm, wE_pop, wK_none, wK_some, wR_seq, wR_rng1, wR_rng2, wR_zip, oS_some, bS_bl, iS_int, Mini.get, Mini.put, Mini.clear, Mini.back, Mini.scal, sem_neg, sem_not, sem_isN, sem_notN, sem_addI, sem_sub, sem_lt, sem_le, sem_gt, sem_ge, sem_eq, sem_ne, sem_in, sem_ni, sem_ixL, sem_ixT, sem_ixS, sem_lenL, sem_lenT, sem_lenS, sem_abs, sem_max2, sem_min2, sem_tupL, sem_tupT, sem_listL, sem_listT, sem_sorted, sem_all, sem_intB, sem_intI, sem_isL, sem_mkL0, sem_mkL1, sem_mkL2, sem_mkL3, sem_mkT0, sem_mkT1, sem_mkT2, sem_mkT3, Mini.isLst, Mini.fill, Mini.refs, Mini.ref1, Mini.backR, Option.map_some, Mini.unpD, Mini.bindL, Mini.bindT, Mini.itemsD, Mini.recM, Mini.isNon, Mini.wOut, Mini.outsOf, Mini.own, List.take, true_and, and_true, if_true, Bool.false_eq_true, if_false, at3_0, at3_1, at3_2, at2_0, at2_1, ix3_0, ix3_1, ix3_2, List.length_cons, List.length_nil, List.set_cons_zero, List.set_cons_succ, Nat.zero_add, Nat.reduceAdd, sem_fdivS, sem_mulS, sem_mod])
        first
          | exact ⟨_, _, rfl⟩
          | (rw [wSs_nil]; exact ⟨_, _, rfl⟩)
  · rintro s ⟨x4, x5, rfl⟩
    have e : (bh hs st hd).take hs.length = bh hs st hd := List.take_of_length_le (by rw [bh_len h1 h2]; exact Nat.le_refl _)
    rw [e]
    (rw [wSs_cons]; simp (maxSteps := 2000000) (disch := first | assumption | omega) only [wSs_nil, wS_set, wS_unp, wS_sidx, wS_smt, wS_ex, wS_ret, wS_ite, wS_pass, wE_cst, wE_glb, wE_var, wE_sv, wE_mv, wE_rf, wE_frz, wE_op, wEs_nil, wEs_cons, wE_and, wE_or, wE_ite, wE_call, wE_bm, wE_pop, wK_none, wK_some, wR_seq, wR_rng1, wR_rng2, wR_zip, oS_some, bS_bl, iS_int, Mini.get, Mini.put, Mini.clear, Mini.back, Mini.scal, sem_neg, sem_not, sem_isN, sem_notN, sem_addI, sem_sub, sem_lt, sem_le, sem_gt, sem_ge, sem_eq, sem_ne, sem_in, sem_ni, sem_ixL, sem_ixT, sem_ixS, sem_lenL, sem_lenT, sem_lenS, sem_abs, sem_max2, sem_min2, sem_tupL, sem_tupT, sem_listL, sem_listT, sem_sorted, sem_all, sem_intB, sem_intI, sem_isL, sem_mkL0, sem_mkL1, sem_mkL2, sem_mkL3, sem_mkT0, sem_mkT1, sem_mkT2, sem_mkT3, Mini.isLst, Mini.fill, Mini.refs, Mini.ref1, Mini.backR, Option.map_some, Mini.unpD, Mini.bindL, Mini.bindT, Mini.itemsD, Mini.recM, Mini.isNon, Mini.wOut, Mini.outsOf, Mini.own, List.take, true_and, and_true, if_true, Bool.false_eq_true, if_false, at3_0, at3_1, at3_2, at2_0, at2_1, ix3_0, ix3_1, ix3_2, List.length_cons, List.length_nil, List.set_cons_zero, List.set_cons_succ, Nat.zero_add, Nat.reduceAdd, sem_fdivS, sem_mulS, sem_mod])
    try exact ⟨rfl, rfl⟩
theorem stepped_ok (n : Nat) (hs : List Int) (st hd : List (Option Int)) (h3 : hs.length ≤ 100) :
    wC (callF fds (n + 1) 0 [.tup (hs.map .int), .tup (st.map oD), .tup (hd.map oD)]) fun d os => d = .tup ((bh hs st hd).map oD) ∧ os = [none, none, none] := by
  refine wC_call (fd := f0) rfl rfl ?_
  show wSs (callF fds n) f0.body [some (.tup (hs.map .int)), some (.tup (st.map oD)), some (.tup (hd.map oD)), none, none, none, none] _ _
  simp only [f0]
  (rw [wSs_cons]; simp (maxSteps := 2000000) (disch := first | assumption | omega) only [wSs_nil, wS_set, wS_unp, wS_sidx, wS_smt, wS_ex, wS_ret, wS_ite, wS_pass, wE_cst, wE_glb, wE_var, wE_sv, wE_mv, wE_rf, wE_frz, wE_op, wEs_nil, wEs_cons, wE_and, wE_or, wE_ite, wE_call, wE_bm, wE_pop, wK_none, wK_some, wR_seq, wR_rng1, wR_rng2, wR_zip, oS_some, bS_bl, iS_int, Mini.get, Mini.put, Mini.clear, Mini.back, Mini.scal, sem_neg, sem_not, sem_isN, sem_notN, sem_addI, sem_sub, sem_lt, sem_le, sem_gt, sem_ge, sem_eq, sem_ne, sem_in, sem_ni, sem_ixL, sem_ixT, sem_ixS, sem_lenL, sem_lenT, sem_lenS, sem_abs, sem_max2, sem_min2, sem_tupL, sem_tupT, sem_listL, sem_listT, sem_sorted, sem_all, sem_intB, sem_intI, sem_isL, sem_mkL0, sem_mkL1, sem_mkL2, sem_mkL3, sem_mkT0, sem_mkT1, sem_mkT2, sem_mkT3, Mini.isLst, Mini.fill, Mini.refs, Mini.ref1, Mini.backR, Option.map_some, Mini.unpD, Mini.bindL, Mini.bindT, Mini.itemsD, Mini.recM, Mini.isNon, Mini.wOut, Mini.outsOf, Mini.own, List.take, true_and, and_true, if_true, Bool.false_eq_true, if_false, at3_0, at3_1, at3_2, at2_0, at2_1, ix3_0, ix3_1, ix3_2, List.length_cons, List.length_nil, List.set_cons_zero, List.set_cons_succ, Nat.zero_add, Nat.reduceAdd, sem_fdivS, sem_mulS, sem_mod])
  rw [wSs_cons]
  refine wS_for ?_
  simp (maxSteps := 2000000) (disch := first | assumption | omega) only [zipsD, wSs_nil, wS_set, wS_unp, wS_sidx, wS_smt, wS_ex, wS_ret, wS_ite, wS_pass, wE_cst, wE_glb, wE_var, wE_sv, wE_mv, wE_rf, wE_frz, wE_op, wEs_nil, wEs_cons, wE_and, wE_or, wE_ite, wE_call, wE_bm, wE_pop, wK_none, wK_some, wR_seq, wR_rng1, wR_rng2, wR_zip, oS_some, bS_bl, iS_int, Mini.get, Mini.put, Mini.clear, Mini.back, Mini.scal, sem_neg, sem_not, sem_isN, sem_notN, sem_addI, sem_sub, sem_lt, sem_le, sem_gt, sem_ge, sem_eq, sem_ne, sem_in, sem_ni, sem_ixL, sem_ixT, sem_ixS, sem_lenL, sem_lenT, sem_lenS, sem_abs, sem_max2, sem_min2, sem_tupL, sem_tupT, sem_listL, sem_listT, sem_sorted, sem_all, sem_intB, sem_intI, sem_isL, sem_mkL0, sem_mkL1, sem_mkL2, sem_mkL3, sem_mkT0, sem_mkT1, sem_mkT2, sem_mkT3, Mini.isLst, Mini.fill, Mini.refs, Mini.ref1, Mini.backR, Option.map_some, Mini.unpD, Mini.bindL, Mini.bindT, Mini.itemsD, Mini.recM, Mini.isNon, Mini.wOut, Mini.outsOf, Mini.own, List.take, true_and, and_true, if_true, Bool.false_eq_true, if_false, at3_0, at3_1, at3_2, at2_0, at2_1, ix3_0, ix3_1, ix3_2, List.length_cons, List.length_nil, List.set_cons_zero, List.set_cons_succ, Nat.zero_add, Nat.reduceAdd, sem_fdivS, sem_mulS, sem_mod]
  refine seq_loop (fun rest s => ∃ (acc : List (Option Int)) (hh : List Int) (ss dd : List (Option Int)) (x4 x5 x6 : Option D), rest = zip3D (ss.map oD) (dd.map oD) (hh.map .int) ∧ acc ++ bh hh ss dd = bh hs st hd ∧ acc.length + hh.length = hs.length ∧ s = [some (.tup (hs.map .int)), some (.tup (st.map oD)), some (.tup (hd.map oD)), some (.lst (acc.map oD)), x4, x5, x6])
    ⟨[], hs, st, hd, none, none, none, rfl, rfl, by simp, rfl⟩ ?_ ?_
  · rintro d ds s ⟨acc, hh, ss, dd, x4, x5, x6, e0, e1, e2, rfl⟩
    match ss, dd, hh, e0, e1, e2 with
    | [], _, _, e0, _, _ => simp [zip3D] at e0
    | _ :: _, [], _, e0, _, _ => simp [zip3D] at e0
    | _ :: _, _ :: _, [], e0, _, _ => simp [zip3D] at e0
    | b :: ss, c :: dd, a :: hh, e0, e1, e2 =>
      have e0 : d :: ds = .tup [oD b, oD c, .int a] :: zip3D (ss.map oD) (dd.map oD) (hh.map .int) := e0
      injection e0 with e3 e4
      subst e3 e4
      have e1 : acc ++ (b1 a b c :: bh hh ss dd) = bh hs st hd := e1
      rw [List.length_cons] at e2
      have ea : ∀ o : Option Int, mopD .append (acc.map oD) [oD o] = some ((acc ++ [o]).map oD) := fun o => app_o (by omega)
      have en : mopD .append (acc.map oD) [.non] = some ((acc ++ [none]).map oD) := ea none
      have nxt : ∀ x4 x5 x6 : Option D, ∃ (acc' : List (Option Int)) (hh' : List Int) (ss' dd' : List (Option Int)) (y4 y5 y6 : Option D), zip3D (ss.map oD) (dd.map oD) (hh.map .int) = zip3D (ss'.map oD) (dd'.map oD) (hh'.map .int) ∧ acc' ++ bh hh' ss' dd' = bh hs st hd ∧ acc'.length + hh'.length = hs.length ∧
          ([some (.tup (hs.map .int)), some (.tup (st.map oD)), some (.tup (hd.map oD)), some (.lst ((acc ++ [b1 a b c]).map oD)), x4, x5, x6] : Sl) = [some (.tup (hs.map .int)), some (.tup (st.map oD)), some (.tup (hd.map oD)), some (.lst (acc'.map oD)), y4, y5, y6] := fun x4 x5 x6 =>
        ⟨acc ++ [b1 a b c], hh, ss, dd, x4, x5, x6, rfl, by rw [List.append_assoc]; exact e1, by simp; omega, rfl⟩
      simp (maxSteps := 2000000) (disch := first | assumption | omega) only [wSs_nil, wS_set, wS_unp, wS_sidx, wS_smt, wS_ex, wS_ret, wS_ite, wS_pass, wE_cst, wE_glb, wE_var, wE_sv, wE_mv, wE_rf, wE_frz, wE_op, wEs_nil, wEs_cons, wE_and, wE_or, wE_ite, wE_call, wE_bm, wE_pop, wK_none, wK_some, wR_seq, wR_rng1, wR_rng2, wR_zip, oS_some, bS_bl, iS_int, Mini.get, Mini.put, Mini.clear, Mini.back, Mini.scal, sem_neg, sem_not, sem_isN, sem_notN, sem_addI, sem_sub, sem_lt, sem_le, sem_gt, sem_ge, sem_eq, sem_ne, sem_in, sem_ni, sem_ixL, sem_ixT, sem_ixS, sem_lenL, sem_lenT, sem_lenS, sem_abs, sem_max2, sem_min2, sem_tupL, sem_tupT, sem_listL, sem_listT, sem_sorted, sem_all, sem_intB, sem_intI, sem_isL, sem_mkL0, sem_mkL1, sem_mkL2, sem_mkL3, sem_mkT0, sem_mkT1, sem_mkT2, sem_mkT3, Mini.isLst, Mini.fill, Mini.refs, Mini.ref1, Mini.backR, Option.map_some, Mini.unpD, Mini.bindL, Mini.bindT, Mini.itemsD, Mini.recM, Mini.isNon, Mini.wOut, Mini.outsOf, Mini.own, List.take, true_and, and_true, if_true, Bool.false_eq_true, if_false, at3_0, at3_1, at3_2, at2_0, at2_1, ix3_0, ix3_1, ix3_2, List.length_cons, List.length_nil, List.set_cons_zero, List.set_cons_succ, Nat.zero_add, Nat.reduceAdd, sem_fdivS, sem_mulS, sem_mod]
      unfold b1 at nxt
      cases b with
      | none =>
        (rw [wSs_cons]; simp (maxSteps := 2000000) (disch := first | assumption | omega) only [oD_n, oD_s, Option.isNone_none, Bool.true_or, wSs_nil, wS_set, wS_unp, wS_sidx, wS_smt, wS_ex, wS_ret, wS_ite, wS_pass, wE_cst, wE_glb, wE_var, wE_sv, wE_mv, wE_rf, wE_frz, wE_op, wEs_nil, wEs_cons, wE_and, wE_or, wE_ite, wE_call, wE_bm, wE_pop, wK_none, wK_some, wR_seq, wR_rng1, wR_rng2, wR_zip, oS_some, bS_bl, iS_int, Mini.get, Mini.put, Mini.clear, Mini.back, Mini.scal, sem_neg, sem_not, sem_isN, sem_notN, sem_addI, sem_sub, sem_lt, sem_le, sem_gt, sem_ge, sem_eq, sem_ne, sem_in, sem_ni, sem_ixL, sem_ixT, sem_ixS, sem_lenL, sem_lenT, sem_lenS, sem_abs, sem_max2, sem_min2, sem_tupL, sem_tupT, sem_listL, sem_listT, sem_sorted, sem_all, sem_intB, sem_intI, sem_isL, sem_mkL0, sem_mkL1, sem_mkL2, sem_mkL3, sem_mkT0, sem_mkT1, sem_mkT2, sem_mkT3, Mini.isLst, Mini.fill, Mini.refs, Mini.ref1, Mini.backR, Option.map_some, Mini.unpD, Mini.bindL, Mini.bindT, Mini.itemsD, Mini.recM, Mini.isNon, Mini.wOut, Mini.outsOf, Mini.own, List.take, true_and, and_true, if_true, Bool.false_eq_true, if_false, at3_0, at3_1, at3_2, at2_0, at2_1, ix3_0, ix3_1, ix3_2, List.length_cons, List.length_nil, List.set_cons_zero, List.set_cons_succ, Nat.zero_add, Nat.reduceAdd, sem_fdivS, sem_mulS, sem_mod])
        (rw [wSs_cons]; simp (maxSteps := 2000000) (disch := first | assumption | omega) only [en, wSs_nil, wS_set, wS_unp, wS_sidx, wS_smt, wS_ex, wS_ret, wS_ite, wS_pass, wE_cst, wE_glb, wE_var, wE_sv, wE_mv, wE_rf, wE_frz, wE_op, wEs_nil, wEs_cons, wE_and, wE_or, wE_ite, wE_call, wE_bm, wE_pop, wK_none, wK_some, wR_seq, wR_rng1, wR_rng2, wR_zip, oS_some, bS_bl, iS_int, Mini.get, Mini.put, Mini.clear, Mini.back, Mini.scal, sem_neg, sem_not, sem_isN, sem_notN, sem_addI, sem_sub, sem_lt, sem_le, sem_gt, sem_ge, sem_eq, sem_ne, sem_in, sem_ni, sem_ixL, sem_ixT, sem_ixS, sem_lenL, sem_lenT, sem_lenS, sem_abs, sem_max2, sem_min2, sem_tupL, sem_tupT, sem_listL, sem_listT, sem_sorted, sem_all, sem_intB, sem_intI, sem_isL, sem_mkL0, sem_mkL1, sem_mkL2, sem_mkL3, sem_mkT0, sem_mkT1, sem_mkT2, sem_mkT3, Mini.isLst, Mini.fill, Mini.refs, Mini.ref1, Mini.backR, Option.map_some, Mini.unpD, Mini.bindL, Mini.bindT, Mini.itemsD, Mini.recM, Mini.isNon, Mini.wOut, Mini.outsOf, Mini.own, List.take, true_and, and_true, if_true, Bool.false_eq_true, if_false, at3_0, at3_1, at3_2, at2_0, at2_1, ix3_0, ix3_1, ix3_2, List.length_cons, List.length_nil, List.set_cons_zero, List.set_cons_succ, Nat.zero_add, Nat.reduceAdd, sem_fdivS, sem_mulS, sem_mod])
        have := nxt (some .non) (some (oD c)) (some (.int a))
        simp only [Option.isNone_none, Bool.true_or, if_true] at this
        first
          | exact this
          | (rw [wSs_nil]; exact this)
      | some b =>
        (rw [wSs_cons]; simp (maxSteps := 2000000) (disch := first | assumption | omega) only [oD_n, oD_s, eqD_oi, Option.isNone_some, Bool.false_or, wSs_nil, wS_set, wS_unp, wS_sidx, wS_smt, wS_ex, wS_ret, wS_ite, wS_pass, wE_cst, wE_glb, wE_var, wE_sv, wE_mv, wE_rf, wE_frz, wE_op, wEs_nil, wEs_cons, wE_and, wE_or, wE_ite, wE_call, wE_bm, wE_pop, wK_none, wK_some, wR_seq, wR_rng1, wR_rng2, wR_zip, oS_some, bS_bl, iS_int, Mini.get, Mini.put, Mini.clear, Mini.back, Mini.scal, sem_neg, sem_not, sem_isN, sem_notN, sem_addI, sem_sub, sem_lt, sem_le, sem_gt, sem_ge, sem_eq, sem_ne, sem_in, sem_ni, sem_ixL, sem_ixT, sem_ixS, sem_lenL, sem_lenT, sem_lenS, sem_abs, sem_max2, sem_min2, sem_tupL, sem_tupT, sem_listL, sem_listT, sem_sorted, sem_all, sem_intB, sem_intI, sem_isL, sem_mkL0, sem_mkL1, sem_mkL2, sem_mkL3, sem_mkT0, sem_mkT1, sem_mkT2, sem_mkT3, Mini.isLst, Mini.fill, Mini.refs, Mini.ref1, Mini.backR, Option.map_some, Mini.unpD, Mini.bindL, Mini.bindT, Mini.itemsD, Mini.recM, Mini.isNon, Mini.wOut, Mini.outsOf, Mini.own, List.take, true_and, and_true, if_true, Bool.false_eq_true, if_false, at3_0, at3_1, at3_2, at2_0, at2_1, ix3_0, ix3_1, ix3_2, List.length_cons, List.length_nil, List.set_cons_zero, List.set_cons_succ, Nat.zero_add, Nat.reduceAdd, sem_fdivS, sem_mulS, sem_mod])
        have := nxt (some (.int b)) (some (oD c)) (some (.int a))
        simp only [Option.isNone_some, Bool.false_or] at this
        cases hc : decide (c = some a) with
        | true =>
          rw [hc] at this
          try simp (maxSteps := 2000000) (disch := first | assumption | omega) only [wSs_nil, wS_set, wS_unp, wS_sidx, wS_smt, wS_ex, wS_ret, wS_ite, wS_pass, wE_cst, wE_glb, wE_var, wE_sv, wE_mv, wE_rf, wE_frz, wE_op, wEs_nil, wEs_cons, wE_and, wE_or, wE_ite, wE_call, wE_bm, wE_pop, wK_none, wK_some, wR_seq, wR_rng1, wR_rng2, wR_zip, oS_some, bS_bl, iS_int, Mini.get, Mini.put, Mini.clear, Mini.back, Mini.scal, sem_neg, sem_not, sem_isN, sem_notN, sem_addI, sem_sub, sem_lt, sem_le, sem_gt, sem_ge, sem_eq, sem_ne, sem_in, sem_ni, sem_ixL, sem_ixT, sem_ixS, sem_lenL, sem_lenT, sem_lenS, sem_abs, sem_max2, sem_min2, sem_tupL, sem_tupT, sem_listL, sem_listT, sem_sorted, sem_all, sem_intB, sem_intI, sem_isL, sem_mkL0, sem_mkL1, sem_mkL2, sem_mkL3, sem_mkT0, sem_mkT1, sem_mkT2, sem_mkT3, Mini.isLst, Mini.fill, Mini.refs, Mini.ref1, Mini.backR, Option.map_some, Mini.unpD, Mini.bindL, Mini.bindT, Mini.itemsD, Mini.recM, Mini.isNon, Mini.wOut, Mini.outsOf, Mini.own, List.take, true_and, and_true, if_true, Bool.false_eq_true, if_false, at3_0, at3_1, at3_2, at2_0, at2_1, ix3_0, ix3_1, ix3_2, List.length_cons, List.length_nil, List.set_cons_zero, List.set_cons_succ, Nat.zero_add, Nat.reduceAdd, sem_fdivS, sem_mulS, sem_mod]
          (rw [wSs_cons]; simp (maxSteps := 2000000) (disch := first | assumption | omega) only [en, wSs_nil, wS_set, wS_unp, wS_sidx, wS_smt, wS_ex, wS_ret, wS_ite, wS_pass, wE_cst, wE_glb, wE_var, wE_sv, wE_mv, wE_rf, wE_frz, wE_op, wEs_nil, wEs_cons, wE_and, wE_or, wE_ite, wE_call, wE_bm, wE_pop, wK_none, wK_some, wR_seq, wR_rng1, wR_rng2, wR_zip, oS_some, bS_bl, iS_int, Mini.get, Mini.put, Mini.clear, Mini.back, Mini.scal, sem_neg, sem_not, sem_isN, sem_notN, sem_addI, sem_sub, sem_lt, sem_le, sem_gt, sem_ge, sem_eq, sem_ne, sem_in, sem_ni, sem_ixL, sem_ixT, sem_ixS, sem_lenL, sem_lenT, sem_lenS, sem_abs, sem_max2, sem_min2, sem_tupL, sem_tupT, sem_listL, sem_listT, sem_sorted, sem_all, sem_intB, sem_intI, sem_isL, sem_mkL0, sem_mkL1, sem_mkL2, sem_mkL3, sem_mkT0, sem_mkT1, sem_mkT2, sem_mkT3, Mini.isLst, Mini.fill, Mini.refs, Mini.ref1, Mini.backR, Option.map_some, Mini.unpD, Mini.bindL, Mini.bindT, Mini.itemsD, Mini.recM, Mini.isNon, Mini.wOut, Mini.outsOf, Mini.own, List.take, true_and, and_true, if_true, Bool.false_eq_true, if_false, at3_0, at3_1, at3_2, at2_0, at2_1, ix3_0, ix3_1, ix3_2, List.length_cons, List.length_nil, List.set_cons_zero, List.set_cons_succ, Nat.zero_add, Nat.reduceAdd, sem_fdivS, sem_mulS, sem_mod])
          first
            | exact this
            | (rw [wSs_nil]; exact this)
        | false =>
          rw [hc] at this
          try simp (maxSteps := 2000000) (disch := first | assumption | omega) only [wSs_nil, wS_set, wS_unp, wS_sidx, wS_smt, wS_ex, wS_ret, wS_ite, wS_pass, wE_cst, wE_glb, wE_var, wE_sv, wE_mv, wE_rf, wE_frz, wE_op, wEs_nil, wEs_cons, wE_and, wE_or, wE_ite, wE_call, wE_bm, wE_pop, wK_none, wK_some, wR_seq, wR_rng1, wR_rng2, wR_zip, oS_some, bS_bl, iS_int, Mini.get, Mini.put, Mini.clear, Mini.back, Mini.scal, sem_neg, sem_not, sem_isN, sem_notN, sem_addI, sem_sub, sem_lt, sem_le, sem_gt, sem_ge, sem_eq, sem_ne, sem_in, sem_ni, sem_ixL, sem_ixT, sem_ixS, sem_lenL, sem_lenT, sem_lenS, sem_abs, sem_max2, sem_min2, sem_tupL, sem_tupT, sem_listL, sem_listT, sem_sorted, sem_all, sem_intB, sem_intI, sem_isL, sem_mkL0, sem_mkL1, sem_mkL2, sem_mkL3, sem_mkT0, sem_mkT1, sem_mkT2, sem_mkT3, Mini.isLst, Mini.fill, Mini.refs, Mini.ref1, Mini.backR, Option.map_some, Mini.unpD, Mini.bindL, Mini.bindT, Mini.itemsD, Mini.recM, Mini.isNon, Mini.wOut, Mini.outsOf, Mini.own, List.take, true_and, and_true, if_true, Bool.false_eq_true, if_false, at3_0, at3_1, at3_2, at2_0, at2_1, ix3_0, ix3_1, ix3_2, List.length_cons, List.length_nil, List.set_cons_zero, List.set_cons_succ, Nat.zero_add, Nat.reduceAdd, sem_fdivS, sem_mulS, sem_mod]
          (rw [wSs_cons]; simp (maxSteps := 2000000) (disch := first | assumption | omega) only [ea, wSs_nil, wS_set, wS_unp, wS_sidx, wS_smt, wS_ex, wS_ret, wS_ite, wS_pass, wE_cst, wE_glb, wE_var, wE_sv, wE_mv, wE_rf, wE_frz, wE_op, wEs_nil, wEs_cons, wE_and, wE_or, wE_ite, wE_call, wE_bm, wE_pop, wK_none, wK_some, wR_seq, wR_rng1, wR_rng2, wR_zip, oS_some, bS_bl, iS_int, Mini.get, Mini.put, Mini.clear, Mini.back, Mini.scal, sem_neg, sem_not, sem_isN, sem_notN, sem_addI, sem_sub, sem_lt, sem_le, sem_gt, sem_ge, sem_eq, sem_ne, sem_in, sem_ni, sem_ixL, sem_ixT, sem_ixS, sem_lenL, sem_lenT, sem_lenS, sem_abs, sem_max2, sem_min2, sem_tupL, sem_tupT, sem_listL, sem_listT, sem_sorted, sem_all, sem_intB, sem_intI, sem_isL, sem_mkL0, sem_mkL1, sem_mkL2, sem_mkL3, sem_mkT0, sem_mkT1, sem_mkT2, sem_mkT3, Mini.isLst, Mini.fill, Mini.refs, Mini.ref1, Mini.backR, Option.map_some, Mini.unpD, Mini.bindL, Mini.bindT, Mini.itemsD, Mini.recM, Mini.isNon, Mini.wOut, Mini.outsOf, Mini.own, List.take, true_and, and_true, if_true, Bool.false_eq_true, if_false, at3_0, at3_1, at3_2, at2_0, at2_1, ix3_0, ix3_1, ix3_2, List.length_cons, List.length_nil, List.set_cons_zero, List.set_cons_succ, Nat.zero_add, Nat.reduceAdd, sem_fdivS, sem_mulS, sem_mod])
          first
            | exact this
            | (rw [wSs_nil]; exact this)
  · rintro s ⟨acc, hh, ss, dd, x4, x5, x6, e0, e1, e2, rfl⟩
    have e3 : bh hh ss dd = [] := by
      match ss, dd, hh, e0 with
      | [], _, _, _ => simp [bh]
      | _ :: _, [], hh, _ => cases hh <;> simp [bh]
      | _ :: _, _ :: _, [], _ => simp [bh]
      | _ :: _, _ :: _, _ :: _, e0 => cases e0
    rw [e3, List.append_nil] at e1
    subst e1
    (rw [wSs_cons]; simp (maxSteps := 2000000) (disch := first | assumption | omega) only [wSs_nil, wS_set, wS_unp, wS_sidx, wS_smt, wS_ex, wS_ret, wS_ite, wS_pass, wE_cst, wE_glb, wE_var, wE_sv, wE_mv, wE_rf, wE_frz, wE_op, wEs_nil, wEs_cons, wE_and, wE_or, wE_ite, wE_call, wE_bm, wE_pop, wK_none, wK_some, wR_seq, wR_rng1, wR_rng2, wR_zip, oS_some, bS_bl, iS_int, Mini.get, Mini.put, Mini.clear, Mini.back, Mini.scal, sem_neg, sem_not, sem_isN, sem_notN, sem_addI, sem_sub, sem_lt, sem_le, sem_gt, sem_ge, sem_eq, sem_ne, sem_in, sem_ni, sem_ixL, sem_ixT, sem_ixS, sem_lenL, sem_lenT, sem_lenS, sem_abs, sem_max2, sem_min2, sem_tupL, sem_tupT, sem_listL, sem_listT, sem_sorted, sem_all, sem_intB, sem_intI, sem_isL, sem_mkL0, sem_mkL1, sem_mkL2, sem_mkL3, sem_mkT0, sem_mkT1, sem_mkT2, sem_mkT3, Mini.isLst, Mini.fill, Mini.refs, Mini.ref1, Mini.backR, Option.map_some, Mini.unpD, Mini.bindL, Mini.bindT, Mini.itemsD, Mini.recM, Mini.isNon, Mini.wOut, Mini.outsOf, Mini.own, List.take, true_and, and_true, if_true, Bool.false_eq_true, if_false, at3_0, at3_1, at3_2, at2_0, at2_1, ix3_0, ix3_1, ix3_2, List.length_cons, List.length_nil, List.set_cons_zero, List.set_cons_succ, Nat.zero_add, Nat.reduceAdd, sem_fdivS, sem_mulS, sem_mod])
    try exact ⟨rfl, rfl⟩
end Lk51

namespace Lk51
open Mini
abbrev OI := List (Option Int)
def tD (st : OI) : D := .tup (st.map oD)
def chain (hs : List Int) : OI → List OI → List OI
  | st, [] => [st]
  | st, h :: L => st :: chain hs (bh hs st h) L
def lastC (hs : List Int) : OI → List OI → OI
  | st, [] => st
  | st, h :: L => lastC hs (bh hs st h) L
theorem chain_snoc {hs : List Int} : ∀ {L : List OI} {st h : OI}, chain hs st (L ++ [h]) = chain hs st L ++ [bh hs (lastC hs st L) h]
  | [], st, h => rfl
  | x :: L, st, h => by
    show st :: chain hs (bh hs st x) (L ++ [h]) = st :: (chain hs (bh hs st x) L ++ [bh hs (lastC hs (bh hs st x) L) h])
    rw [chain_snoc]
theorem lastC_snoc {hs : List Int} : ∀ {L : List OI} {st h : OI}, lastC hs st (L ++ [h]) = bh hs (lastC hs st L) h
  | [], st, h => rfl
  | x :: L, st, h => lastC_snoc (L := L)
theorem chain_last {hs : List Int} : ∀ {L : List OI} {st : OI}, (chain hs st L).getLast? = some (lastC hs st L)
  | [], st => rfl
  | x :: L, st => by
    have := chain_last (hs := hs) (L := L) (st := bh hs st x)
    show (st :: chain hs (bh hs st x) L).getLast? = _
    rw [List.getLast?_cons, this]
    rfl
theorem chain_len {hs : List Int} : ∀ {L : List OI} {st : OI}, (chain hs st L).length = L.length + 1
  | [], st => rfl
  | x :: L, st => by
    show (chain hs (bh hs st x) L).length + 1 = L.length + 1 + 1
    rw [chain_len]
theorem chain_at {hs : List Int} {L : List OI} {st : OI} : atD ((chain hs st L).map tD) (-1) = some (tD (lastC hs st L)) := by
  refine atD_neg ?_
  rw [List.getLast?_map, chain_last]
  rfl
theorem app_t {l : List OI} {o : OI} (h : l.length < 1000000) : mopD .append (l.map tD) [tD o] = some ((l ++ [o]).map tD) := by
  rw [mop_app (by rw [List.length_map]; exact h), List.map_append]
  rfl
theorem stands_ok (n : Nat) (hs : List Int) (st0 : OI) (L : List OI) (h3 : hs.length ≤ 100) (h4 : L.length ≤ 1000) :
    wC (callF fds (n + 2) 1 [.tup (hs.map .int), tD st0, .lst (L.map tD)]) fun d os => d = .lst ((chain hs st0 L).map tD) ∧ os = [none, none, some (.lst (L.map tD))] := by
  refine wC_call (fd := f1) rfl rfl ?_
  show wSs (callF fds (n + 1)) f1.body [some (.tup (hs.map .int)), some (.tup (st0.map oD)), some (.lst (L.map tD)), none, none] _ _
  simp only [f1]
  (rw [wSs_cons]; simp (maxSteps := 2000000) (disch := first | assumption | omega) only [wSs_nil, wS_set, wS_unp, wS_sidx, wS_smt, wS_ex, wS_ret, wS_ite, wS_pass, wE_cst, wE_glb, wE_var, wE_sv, wE_mv, wE_rf, wE_frz, wE_op, wEs_nil, wEs_cons, wE_and, wE_or, wE_ite, wE_call, wE_bm, wE_pop, wK_none, wK_some, wR_seq, wR_rng1, wR_rng2, wR_zip, oS_some, bS_bl, iS_int, Mini.get, Mini.put, Mini.clear, Mini.back, Mini.scal, sem_neg, sem_not, sem_isN, sem_notN, sem_addI, sem_sub, sem_lt, sem_le, sem_gt, sem_ge, sem_eq, sem_ne, sem_in, sem_ni, sem_ixL, sem_ixT, sem_ixS, sem_lenL, sem_lenT, sem_lenS, sem_abs, sem_max2, sem_min2, sem_tupL, sem_tupT, sem_listL, sem_listT, sem_sorted, sem_all, sem_intB, sem_intI, sem_isL, sem_mkL0, sem_mkL1, sem_mkL2, sem_mkL3, sem_mkT0, sem_mkT1, sem_mkT2, sem_mkT3, Mini.isLst, Mini.fill, Mini.refs, Mini.ref1, Mini.backR, Option.map_some, Mini.unpD, Mini.bindL, Mini.bindT, Mini.itemsD, Mini.recM, Mini.isNon, Mini.wOut, Mini.outsOf, Mini.own, List.take, true_and, and_true, if_true, Bool.false_eq_true, if_false, at3_0, at3_1, at3_2, at2_0, at2_1, ix3_0, ix3_1, ix3_2, List.length_cons, List.length_nil, List.set_cons_zero, List.set_cons_succ, Nat.zero_add, Nat.reduceAdd, sem_fdivS, sem_mulS, sem_mod])
  rw [wSs_cons]
  refine wS_for ?_
  simp (maxSteps := 2000000) (disch := first | assumption | omega) only [wSs_nil, wS_set, wS_unp, wS_sidx, wS_smt, wS_ex, wS_ret, wS_ite, wS_pass, wE_cst, wE_glb, wE_var, wE_sv, wE_mv, wE_rf, wE_frz, wE_op, wEs_nil, wEs_cons, wE_and, wE_or, wE_ite, wE_call, wE_bm, wE_pop, wK_none, wK_some, wR_seq, wR_rng1, wR_rng2, wR_zip, oS_some, bS_bl, iS_int, Mini.get, Mini.put, Mini.clear, Mini.back, Mini.scal, sem_neg, sem_not, sem_isN, sem_notN, sem_addI, sem_sub, sem_lt, sem_le, sem_gt, sem_ge, sem_eq, sem_ne, sem_in, sem_ni, sem_ixL, sem_ixT, sem_ixS, sem_lenL, sem_lenT, sem_lenS, sem_abs, sem_max2, sem_min2, sem_tupL, sem_tupT, sem_listL, sem_listT, sem_sorted, sem_all, sem_intB, sem_intI, sem_isL, sem_mkL0, sem_mkL1, sem_mkL2, sem_mkL3, sem_mkT0, sem_mkT1, sem_mkT2, sem_mkT3, Mini.isLst, Mini.fill, Mini.refs, Mini.ref1, Mini.backR, Option.map_some, Mini.unpD, Mini.bindL, Mini.bindT, Mini.itemsD, Mini.recM, Mini.isNon, Mini.wOut, Mini.outsOf, Mini.own, List.take, true_and, and_true, if_true, Bool.false_eq_true, if_false, at3_0, at3_1, at3_2, at2_0, at2_1, ix3_0, ix3_1, ix3_2, List.length_cons, List.length_nil, List.set_cons_zero, List.set_cons_succ, Nat.zero_add, Nat.reduceAdd, sem_fdivS, sem_mulS, sem_mod]
  refine seq_loop (fun rest s => ∃ (dn rs : List OI) (x4 : Option D), L = dn ++ rs ∧ rest = rs.map tD ∧ s = [some (.tup (hs.map .int)), some (.tup (st0.map oD)), some (.lst (L.map tD)), some (.lst ((chain hs st0 dn).map tD)), x4]) ⟨[], L, none, rfl, rfl, rfl⟩ ?_ ?_
  · rintro d ds s ⟨dn, rs, x4, e0, e1, rfl⟩
    cases rs with
    | nil => cases e1
    | cons h rs =>
      rw [List.map_cons] at e1
      injection e1 with e3 e4
      subst e3 e4
      have hl : dn.length < 1000 := by
        rw [e0] at h4
        simp at h4
        omega
      have ea : mopD .append ((chain hs st0 dn).map tD) [.tup ((bh hs (lastC hs st0 dn) h).map oD)] = some ((chain hs st0 dn ++ [bh hs (lastC hs st0 dn) h]).map tD) := app_t (by rw [chain_len]; omega)
      simp (maxSteps := 2000000) (disch := first | assumption | omega) only [wSs_nil, wS_set, wS_unp, wS_sidx, wS_smt, wS_ex, wS_ret, wS_ite, wS_pass, wE_cst, wE_glb, wE_var, wE_sv, wE_mv, wE_rf, wE_frz, wE_op, wEs_nil, wEs_cons, wE_and, wE_or, wE_ite, wE_call, wE_bm, wE_pop, wK_none, wK_some, wR_seq, wR_rng1, wR_rng2, wR_zip, oS_some, bS_bl, iS_int, Mini.get, Mini.put, Mini.clear, Mini.back, Mini.scal, sem_neg, sem_not, sem_isN, sem_notN, sem_addI, sem_sub, sem_lt, sem_le, sem_gt, sem_ge, sem_eq, sem_ne, sem_in, sem_ni, sem_ixL, sem_ixT, sem_ixS, sem_lenL, sem_lenT, sem_lenS, sem_abs, sem_max2, sem_min2, sem_tupL, sem_tupT, sem_listL, sem_listT, sem_sorted, sem_all, sem_intB, sem_intI, sem_isL, sem_mkL0, sem_mkL1, sem_mkL2, sem_mkL3, sem_mkT0, sem_mkT1, sem_mkT2, sem_mkT3, Mini.isLst, Mini.fill, Mini.refs, Mini.ref1, Mini.backR, Option.map_some, Mini.unpD, Mini.bindL, Mini.bindT, Mini.itemsD, Mini.recM, Mini.isNon, Mini.wOut, Mini.outsOf, Mini.own, List.take, true_and, and_true, if_true, Bool.false_eq_true, if_false, at3_0, at3_1, at3_2, at2_0, at2_1, ix3_0, ix3_1, ix3_2, List.length_cons, List.length_nil, List.set_cons_zero, List.set_cons_succ, Nat.zero_add, Nat.reduceAdd, sem_fdivS, sem_mulS, sem_mod]
      (rw [wSs_cons]; simp (maxSteps := 2000000) (disch := first | assumption | omega) only [chain_at, tD, wSs_nil, wS_set, wS_unp, wS_sidx, wS_smt, wS_ex, wS_ret, wS_ite, wS_pass, wE_cst, wE_glb, wE_var, wE_sv, wE_mv, wE_rf, wE_frz, wE_op, wEs_nil, wEs_cons, wE_and, wE_or, wE_ite, wE_call, wE_bm, wE_pop, wK_none, wK_some, wR_seq, wR_rng1, wR_rng2, wR_zip, oS_some, bS_bl, iS_int, Mini.get, Mini.put, Mini.clear, Mini.back, Mini.scal, sem_neg, sem_not, sem_isN, sem_notN, sem_addI, sem_sub, sem_lt, sem_le, sem_gt, sem_ge, sem_eq, sem_ne, sem_in, sem_ni, sem_ixL, sem_ixT, sem_ixS, sem_lenL, sem_lenT, sem_lenS, sem_abs, sem_max2, sem_min2, sem_tupL, sem_tupT, sem_listL, sem_listT, sem_sorted, sem_all, sem_intB, sem_intI, sem_isL, sem_mkL0, sem_mkL1, sem_mkL2, sem_mkL3, sem_mkT0, sem_mkT1, sem_mkT2, sem_mkT3, Mini.isLst, Mini.fill, Mini.refs, Mini.ref1, Mini.backR, Option.map_some, Mini.unpD, Mini.bindL, Mini.bindT, Mini.itemsD, Mini.recM, Mini.isNon, Mini.wOut, Mini.outsOf, Mini.own, List.take, true_and, and_true, if_true, Bool.false_eq_true, if_false, at3_0, at3_1, at3_2, at2_0, at2_1, ix3_0, ix3_1, ix3_2, List.length_cons, List.length_nil, List.set_cons_zero, List.set_cons_succ, Nat.zero_add, Nat.reduceAdd, sem_fdivS, sem_mulS, sem_mod])
      refine wC_mono (stepped_ok n hs (lastC hs st0 dn) h h3) ?_
      rintro d os ⟨rfl, rfl⟩
      simp (maxSteps := 2000000) (disch := first | assumption | omega) only [ea, wSs_nil, wS_set, wS_unp, wS_sidx, wS_smt, wS_ex, wS_ret, wS_ite, wS_pass, wE_cst, wE_glb, wE_var, wE_sv, wE_mv, wE_rf, wE_frz, wE_op, wEs_nil, wEs_cons, wE_and, wE_or, wE_ite, wE_call, wE_bm, wE_pop, wK_none, wK_some, wR_seq, wR_rng1, wR_rng2, wR_zip, oS_some, bS_bl, iS_int, Mini.get, Mini.put, Mini.clear, Mini.back, Mini.scal, sem_neg, sem_not, sem_isN, sem_notN, sem_addI, sem_sub, sem_lt, sem_le, sem_gt, sem_ge, sem_eq, sem_ne, sem_in, sem_ni, sem_ixL, sem_ixT, sem_ixS, sem_lenL, sem_lenT, sem_lenS, sem_abs, sem_max2, sem_min2, sem_tupL, sem_tupT, sem_listL, sem_listT, sem_sorted, sem_all, sem_intB, sem_intI, sem_isL, sem_mkL0, sem_mkL1, sem_mkL2, sem_mkL3, sem_mkT0, sem_mkT1, sem_mkT2, sem_mkT3, Mini.isLst, Mini.fill, Mini.refs, Mini.ref1, Mini.backR, Option.map_some, Mini.unpD, Mini.bindL, Mini.bindT, Mini.itemsD, Mini.recM, Mini.isNon, Mini.wOut, Mini.outsOf, Mini.own, List.take, true_and, and_true, if_true, Bool.false_eq_true, if_false, at3_0, at3_1, at3_2, at2_0, at2_1, ix3_0, ix3_1, ix3_2, List.length_cons, List.length_nil, List.set_cons_zero, List.set_cons_succ, Nat.zero_add, Nat.reduceAdd, sem_fdivS, sem_mulS, sem_mod]
      have fin : ∃ (dn' rs' : List OI) (x4 : Option D), L = dn' ++ rs' ∧ rs.map tD = rs'.map tD ∧ ([some (.tup (hs.map .int)), some (.tup (st0.map oD)), some (.lst (L.map tD)), some (.lst ((chain hs st0 dn ++ [bh hs (lastC hs st0 dn) h]).map tD)), some (.tup (h.map oD))] : Sl) = [some (.tup (hs.map .int)), some (.tup (st0.map oD)), some (.lst (L.map tD)), some (.lst ((chain hs st0 dn').map tD)), x4] :=
        ⟨dn ++ [h], rs, _, by rw [e0, List.append_assoc]; rfl, rfl, by rw [chain_snoc]⟩
      first
        | exact fin
        | (rw [wSs_nil]; exact fin)
  · rintro s ⟨dn, rs, x4, e0, e1, rfl⟩
    cases rs with
    | cons _ _ => cases e1
    | nil =>
      rw [List.append_nil] at e0
      subst e0
      (rw [wSs_cons]; simp (maxSteps := 2000000) (disch := first | assumption | omega) only [wSs_nil, wS_set, wS_unp, wS_sidx, wS_smt, wS_ex, wS_ret, wS_ite, wS_pass, wE_cst, wE_glb, wE_var, wE_sv, wE_mv, wE_rf, wE_frz, wE_op, wEs_nil, wEs_cons, wE_and, wE_or, wE_ite, wE_call, wE_bm, wE_pop, wK_none, wK_some, wR_seq, wR_rng1, wR_rng2, wR_zip, oS_some, bS_bl, iS_int, Mini.get, Mini.put, Mini.clear, Mini.back, Mini.scal, sem_neg, sem_not, sem_isN, sem_notN, sem_addI, sem_sub, sem_lt, sem_le, sem_gt, sem_ge, sem_eq, sem_ne, sem_in, sem_ni, sem_ixL, sem_ixT, sem_ixS, sem_lenL, sem_lenT, sem_lenS, sem_abs, sem_max2, sem_min2, sem_tupL, sem_tupT, sem_listL, sem_listT, sem_sorted, sem_all, sem_intB, sem_intI, sem_isL, sem_mkL0, sem_mkL1, sem_mkL2, sem_mkL3, sem_mkT0, sem_mkT1, sem_mkT2, sem_mkT3, Mini.isLst, Mini.fill, Mini.refs, Mini.ref1, Mini.backR, Option.map_some, Mini.unpD, Mini.bindL, Mini.bindT, Mini.itemsD, Mini.recM, Mini.isNon, Mini.wOut, Mini.outsOf, Mini.own, List.take, true_and, and_true, if_true, Bool.false_eq_true, if_false, at3_0, at3_1, at3_2, at2_0, at2_1, ix3_0, ix3_1, ix3_2, List.length_cons, List.length_nil, List.set_cons_zero, List.set_cons_succ, Nat.zero_add, Nat.reduceAdd, sem_fdivS, sem_mulS, sem_mod])
      try exact ⟨rfl, rfl⟩
theorem bh_mem : ∀ {hs : List Int} {ss ds : OI} {v : Int}, some v ∈ bh hs ss ds → some v ∈ ds
  | [], _, _, _, h => by simp [bh] at h
  | _ :: _, [], _, _, h => by simp [bh] at h
  | _ :: _, _ :: _, [], _, h => by simp [bh] at h
  | x :: hs, y :: ss, z :: ds, v, h => by
    have h : some v ∈ b1 x y z :: bh hs ss ds := h
    rcases List.mem_cons.mp h with h | h
    · unfold b1 at h
      split at h
      · cases h
      · rw [h]
        exact List.mem_cons_self
    · exact List.mem_cons_of_mem _ (bh_mem h)
theorem bh_cnt : ∀ {hs : List Int} {ss ds : OI} (g : Int), cnt (bh hs ss ds) g ≤ (taken ss ds).countP fun p => decide (p.2 = g)
  | [], _, _, _ => by simp [bh, cnt]
  | _ :: _, [], _, _ => by simp [bh, cnt]
  | _ :: _, _ :: _, [], _ => by simp [bh, cnt]
  | x :: hs, y :: ss, z :: ds, g => by
    have ih := bh_cnt (hs := hs) (ss := ss) (ds := ds) g
    unfold cnt at ih ⊢
    show (b1 x y z :: bh hs ss ds).countP _ ≤ _
    rw [List.countP_cons]
    cases y with
    | none =>
      have e : b1 x none z = none := by simp [b1]
      have e2 : taken (none :: ss) (z :: ds) = taken ss ds := rfl
      rw [e, e2]
      simpa using ih
    | some y =>
      cases z with
      | none =>
        have e : b1 x (some y) none = none := by simp [b1]
        have e2 : taken (some y :: ss) (none :: ds) = taken ss ds := rfl
        rw [e, e2]
        simpa using ih
      | some z =>
        have e2 : taken (some y :: ss) (some z :: ds) = (y, z) :: taken ss ds := rfl
        rw [e2, List.countP_cons]
        unfold b1
        by_cases hx : z = x <;> by_cases hg : z = g <;> simp [hx, hg] <;> first | omega | (split <;> omega)
theorem st_next {many : Int} {ties : List (Int × Int)} {waits : Bool} {hs : List Int} {st hd : OI} (hB : Bal many ties) (hH : HdOk many ties waits st hd) : StOk many ties waits (bh hs st hd) := by
  refine ⟨fun v hv => hH.2.1 v (bh_mem hv), fun hw g => ?_⟩
  obtain ⟨z1, z2⟩ := hH.2.2 hw
  refine Nat.le_trans (bh_cnt g) ?_
  unfold outdeg
  rw [hB.2.2 g, List.countP_eq_length_filter, List.countP_eq_length_filter]
  exact nodup_sub (z1.filter _) fun p hp => by
    obtain ⟨p1, p2⟩ := List.mem_filter.mp hp
    exact List.mem_filter.mpr ⟨z2 p p1, p2⟩
end Lk51

namespace Lk51
open Mini
theorem bh_len' {hs : List Int} {st hd : OI} (h1 : st.length = hs.length) (h2 : hd.length = st.length) : (bh hs st hd).length = hs.length := bh_len h1 (by rw [h2, h1])
theorem walked_ok (n : Nat) (a b c many size : Int) (ties : List (Int × Int)) (oss : List (List Int)) (hs : List Int) (waits : Bool) (h1 : 1 ≤ many) (h2 : many ≤ 32) (hB : Bal many ties) (h3 : ties.length ≤ 20000) (hO : OutsOk many ties oss) (h4 : hs.length ≤ 100) (h5 : 0 ≤ size) (h6 : size ≤ 501) :
    wC (callF fds (n + 3) 17 [pot a b c, .lst (oss.map oL), .tup (hs.map .int), .bl waits, .int size]) fun d os => ∃ (st0 : OI) (L : List OI) (a b c : Int), d = .tup [.lst ((chain hs st0 L).map tD), .lst (L.map tD)] ∧ L.length ≤ 600 ∧ os = [some (pot a b c), none, none, none, none] := by
  refine wC_call (fd := f17) rfl rfl ?_
  show wSs (callF fds (n + 2)) f17.body [some (pot a b c), some (.lst (oss.map oL)), some (.tup (hs.map .int)), some (.bl waits), some (.int size), none, none, none] _ _
  simp only [f17]
  (rw [wSs_cons]; simp (maxSteps := 2000000) (disch := first | assumption | omega) only [wSs_nil, wS_set, wS_unp, wS_sidx, wS_smt, wS_ex, wS_ret, wS_ite, wS_pass, wE_cst, wE_glb, wE_var, wE_sv, wE_mv, wE_rf, wE_frz, wE_op, wEs_nil, wEs_cons, wE_and, wE_or, wE_ite, wE_call, wE_bm, wE_pop, wK_none, wK_some, wR_seq, wR_rng1, wR_rng2, wR_zip, oS_some, bS_bl, iS_int, Mini.get, Mini.put, Mini.clear, Mini.back, Mini.scal, sem_neg, sem_not, sem_isN, sem_notN, sem_addI, sem_sub, sem_lt, sem_le, sem_gt, sem_ge, sem_eq, sem_ne, sem_in, sem_ni, sem_ixL, sem_ixT, sem_ixS, sem_lenL, sem_lenT, sem_lenS, sem_abs, sem_max2, sem_min2, sem_tupL, sem_tupT, sem_listL, sem_listT, sem_sorted, sem_all, sem_intB, sem_intI, sem_isL, sem_mkL0, sem_mkL1, sem_mkL2, sem_mkL3, sem_mkT0, sem_mkT1, sem_mkT2, sem_mkT3, Mini.isLst, Mini.fill, Mini.refs, Mini.ref1, Mini.backR, Option.map_some, Mini.unpD, Mini.bindL, Mini.bindT, Mini.itemsD, Mini.recM, Mini.isNon, Mini.wOut, Mini.outsOf, Mini.own, List.take, true_and, and_true, if_true, Bool.false_eq_true, if_false, at3_0, at3_1, at3_2, at2_0, at2_1, ix3_0, ix3_1, ix3_2, List.length_cons, List.length_nil, List.set_cons_zero, List.set_cons_succ, Nat.zero_add, Nat.reduceAdd, sem_fdivS, sem_mulS, sem_mod])
  refine wC_mono (begun_ok n a b c many ties oss hs waits h1 h2 hO h4) ?_
  rintro d os ⟨st0, a, b, c, rfl, hl0, hS0, rfl⟩
  simp (maxSteps := 2000000) (disch := first | assumption | omega) only [wSs_nil, wS_set, wS_unp, wS_sidx, wS_smt, wS_ex, wS_ret, wS_ite, wS_pass, wE_cst, wE_glb, wE_var, wE_sv, wE_mv, wE_rf, wE_frz, wE_op, wEs_nil, wEs_cons, wE_and, wE_or, wE_ite, wE_call, wE_bm, wE_pop, wK_none, wK_some, wR_seq, wR_rng1, wR_rng2, wR_zip, oS_some, bS_bl, iS_int, Mini.get, Mini.put, Mini.clear, Mini.back, Mini.scal, sem_neg, sem_not, sem_isN, sem_notN, sem_addI, sem_sub, sem_lt, sem_le, sem_gt, sem_ge, sem_eq, sem_ne, sem_in, sem_ni, sem_ixL, sem_ixT, sem_ixS, sem_lenL, sem_lenT, sem_lenS, sem_abs, sem_max2, sem_min2, sem_tupL, sem_tupT, sem_listL, sem_listT, sem_sorted, sem_all, sem_intB, sem_intI, sem_isL, sem_mkL0, sem_mkL1, sem_mkL2, sem_mkL3, sem_mkT0, sem_mkT1, sem_mkT2, sem_mkT3, Mini.isLst, Mini.fill, Mini.refs, Mini.ref1, Mini.backR, Option.map_some, Mini.unpD, Mini.bindL, Mini.bindT, Mini.itemsD, Mini.recM, Mini.isNon, Mini.wOut, Mini.outsOf, Mini.own, List.take, true_and, and_true, if_true, Bool.false_eq_true, if_false, at3_0, at3_1, at3_2, at2_0, at2_1, ix3_0, ix3_1, ix3_2, List.length_cons, List.length_nil, List.set_cons_zero, List.set_cons_succ, Nat.zero_add, Nat.reduceAdd, sem_fdivS, sem_mulS, sem_mod]
  (rw [wSs_cons]; simp (maxSteps := 2000000) (disch := first | assumption | omega) only [wSs_nil, wS_set, wS_unp, wS_sidx, wS_smt, wS_ex, wS_ret, wS_ite, wS_pass, wE_cst, wE_glb, wE_var, wE_sv, wE_mv, wE_rf, wE_frz, wE_op, wEs_nil, wEs_cons, wE_and, wE_or, wE_ite, wE_call, wE_bm, wE_pop, wK_none, wK_some, wR_seq, wR_rng1, wR_rng2, wR_zip, oS_some, bS_bl, iS_int, Mini.get, Mini.put, Mini.clear, Mini.back, Mini.scal, sem_neg, sem_not, sem_isN, sem_notN, sem_addI, sem_sub, sem_lt, sem_le, sem_gt, sem_ge, sem_eq, sem_ne, sem_in, sem_ni, sem_ixL, sem_ixT, sem_ixS, sem_lenL, sem_lenT, sem_lenS, sem_abs, sem_max2, sem_min2, sem_tupL, sem_tupT, sem_listL, sem_listT, sem_sorted, sem_all, sem_intB, sem_intI, sem_isL, sem_mkL0, sem_mkL1, sem_mkL2, sem_mkL3, sem_mkT0, sem_mkT1, sem_mkT2, sem_mkT3, Mini.isLst, Mini.fill, Mini.refs, Mini.ref1, Mini.backR, Option.map_some, Mini.unpD, Mini.bindL, Mini.bindT, Mini.itemsD, Mini.recM, Mini.isNon, Mini.wOut, Mini.outsOf, Mini.own, List.take, true_and, and_true, if_true, Bool.false_eq_true, if_false, at3_0, at3_1, at3_2, at2_0, at2_1, ix3_0, ix3_1, ix3_2, List.length_cons, List.length_nil, List.set_cons_zero, List.set_cons_succ, Nat.zero_add, Nat.reduceAdd, sem_fdivS, sem_mulS, sem_mod])
  rw [wSs_cons]
  refine wS_for ?_
  simp (maxSteps := 2000000) (disch := first | assumption | omega) only [wSs_nil, wS_set, wS_unp, wS_sidx, wS_smt, wS_ex, wS_ret, wS_ite, wS_pass, wE_cst, wE_glb, wE_var, wE_sv, wE_mv, wE_rf, wE_frz, wE_op, wEs_nil, wEs_cons, wE_and, wE_or, wE_ite, wE_call, wE_bm, wE_pop, wK_none, wK_some, wR_seq, wR_rng1, wR_rng2, wR_zip, oS_some, bS_bl, iS_int, Mini.get, Mini.put, Mini.clear, Mini.back, Mini.scal, sem_neg, sem_not, sem_isN, sem_notN, sem_addI, sem_sub, sem_lt, sem_le, sem_gt, sem_ge, sem_eq, sem_ne, sem_in, sem_ni, sem_ixL, sem_ixT, sem_ixS, sem_lenL, sem_lenT, sem_lenS, sem_abs, sem_max2, sem_min2, sem_tupL, sem_tupT, sem_listL, sem_listT, sem_sorted, sem_all, sem_intB, sem_intI, sem_isL, sem_mkL0, sem_mkL1, sem_mkL2, sem_mkL3, sem_mkT0, sem_mkT1, sem_mkT2, sem_mkT3, Mini.isLst, Mini.fill, Mini.refs, Mini.ref1, Mini.backR, Option.map_some, Mini.unpD, Mini.bindL, Mini.bindT, Mini.itemsD, Mini.recM, Mini.isNon, Mini.wOut, Mini.outsOf, Mini.own, List.take, true_and, and_true, if_true, Bool.false_eq_true, if_false, at3_0, at3_1, at3_2, at2_0, at2_1, ix3_0, ix3_1, ix3_2, List.length_cons, List.length_nil, List.set_cons_zero, List.set_cons_succ, Nat.zero_add, Nat.reduceAdd, sem_fdivS, sem_mulS, sem_mod]
  refine ⟨by omega, ?_⟩
  refine rng_loop (fun i s => ∃ (a b c : Int) (L : List OI) (x7 : Option D), s = [some (pot a b c), some (.lst (oss.map oL)), some (.tup (hs.map .int)), some (.bl waits), some (.int size), some (.lst ((chain hs st0 L).map tD)), some (.lst (L.map tD)), x7] ∧ L.length = i ∧ StOk many ties waits (lastC hs st0 L) ∧ (lastC hs st0 L).length = hs.length)
    ⟨a, b, c, [], none, rfl, rfl, hS0, hl0⟩ ?_ ?_
  · rintro i s hi ⟨a, b, c, L, x7, rfl, e1, hS, hl⟩
    simp (maxSteps := 2000000) (disch := first | assumption | omega) only [wSs_nil, wS_set, wS_unp, wS_sidx, wS_smt, wS_ex, wS_ret, wS_ite, wS_pass, wE_cst, wE_glb, wE_var, wE_sv, wE_mv, wE_rf, wE_frz, wE_op, wEs_nil, wEs_cons, wE_and, wE_or, wE_ite, wE_call, wE_bm, wE_pop, wK_none, wK_some, wR_seq, wR_rng1, wR_rng2, wR_zip, oS_some, bS_bl, iS_int, Mini.get, Mini.put, Mini.clear, Mini.back, Mini.scal, sem_neg, sem_not, sem_isN, sem_notN, sem_addI, sem_sub, sem_lt, sem_le, sem_gt, sem_ge, sem_eq, sem_ne, sem_in, sem_ni, sem_ixL, sem_ixT, sem_ixS, sem_lenL, sem_lenT, sem_lenS, sem_abs, sem_max2, sem_min2, sem_tupL, sem_tupT, sem_listL, sem_listT, sem_sorted, sem_all, sem_intB, sem_intI, sem_isL, sem_mkL0, sem_mkL1, sem_mkL2, sem_mkL3, sem_mkT0, sem_mkT1, sem_mkT2, sem_mkT3, Mini.isLst, Mini.fill, Mini.refs, Mini.ref1, Mini.backR, Option.map_some, Mini.unpD, Mini.bindL, Mini.bindT, Mini.itemsD, Mini.recM, Mini.isNon, Mini.wOut, Mini.outsOf, Mini.own, List.take, true_and, and_true, if_true, Bool.false_eq_true, if_false, at3_0, at3_1, at3_2, at2_0, at2_1, ix3_0, ix3_1, ix3_2, List.length_cons, List.length_nil, List.set_cons_zero, List.set_cons_succ, Nat.zero_add, Nat.reduceAdd, sem_fdivS, sem_mulS, sem_mod]
    (rw [wSs_cons]; simp (maxSteps := 2000000) (disch := first | assumption | omega) only [chain_at, wSs_nil, wS_set, wS_unp, wS_sidx, wS_smt, wS_ex, wS_ret, wS_ite, wS_pass, wE_cst, wE_glb, wE_var, wE_sv, wE_mv, wE_rf, wE_frz, wE_op, wEs_nil, wEs_cons, wE_and, wE_or, wE_ite, wE_call, wE_bm, wE_pop, wK_none, wK_some, wR_seq, wR_rng1, wR_rng2, wR_zip, oS_some, bS_bl, iS_int, Mini.get, Mini.put, Mini.clear, Mini.back, Mini.scal, sem_neg, sem_not, sem_isN, sem_notN, sem_addI, sem_sub, sem_lt, sem_le, sem_gt, sem_ge, sem_eq, sem_ne, sem_in, sem_ni, sem_ixL, sem_ixT, sem_ixS, sem_lenL, sem_lenT, sem_lenS, sem_abs, sem_max2, sem_min2, sem_tupL, sem_tupT, sem_listL, sem_listT, sem_sorted, sem_all, sem_intB, sem_intI, sem_isL, sem_mkL0, sem_mkL1, sem_mkL2, sem_mkL3, sem_mkT0, sem_mkT1, sem_mkT2, sem_mkT3, Mini.isLst, Mini.fill, Mini.refs, Mini.ref1, Mini.backR, Option.map_some, Mini.unpD, Mini.bindL, Mini.bindT, Mini.itemsD, Mini.recM, Mini.isNon, Mini.wOut, Mini.outsOf, Mini.own, List.take, true_and, and_true, if_true, Bool.false_eq_true, if_false, at3_0, at3_1, at3_2, at2_0, at2_1, ix3_0, ix3_1, ix3_2, List.length_cons, List.length_nil, List.set_cons_zero, List.set_cons_succ, Nat.zero_add, Nat.reduceAdd, sem_fdivS, sem_mulS, sem_mod])
    refine wC_mono (handing_ok n a b c many ties oss (lastC hs st0 L) waits h1 h2 hB h3 hO hS (by omega)) ?_
    rintro d os ⟨hd, a, b, c, rfl, hH, rfl⟩
    have ea : mopD .append (L.map tD) [.tup (hd.map oD)] = some ((L ++ [hd]).map tD) := app_t (by omega)
    have el : atD ((L ++ [hd]).map tD) (-1) = some (tD hd) := atD_neg (by simp)
    have eb : mopD .append ((chain hs st0 L).map tD) [.tup ((bh hs (lastC hs st0 L) hd).map oD)] = some ((chain hs st0 L ++ [bh hs (lastC hs st0 L) hd]).map tD) := app_t (by rw [chain_len]; omega)
    simp (maxSteps := 2000000) (disch := first | assumption | omega) only [ea, wSs_nil, wS_set, wS_unp, wS_sidx, wS_smt, wS_ex, wS_ret, wS_ite, wS_pass, wE_cst, wE_glb, wE_var, wE_sv, wE_mv, wE_rf, wE_frz, wE_op, wEs_nil, wEs_cons, wE_and, wE_or, wE_ite, wE_call, wE_bm, wE_pop, wK_none, wK_some, wR_seq, wR_rng1, wR_rng2, wR_zip, oS_some, bS_bl, iS_int, Mini.get, Mini.put, Mini.clear, Mini.back, Mini.scal, sem_neg, sem_not, sem_isN, sem_notN, sem_addI, sem_sub, sem_lt, sem_le, sem_gt, sem_ge, sem_eq, sem_ne, sem_in, sem_ni, sem_ixL, sem_ixT, sem_ixS, sem_lenL, sem_lenT, sem_lenS, sem_abs, sem_max2, sem_min2, sem_tupL, sem_tupT, sem_listL, sem_listT, sem_sorted, sem_all, sem_intB, sem_intI, sem_isL, sem_mkL0, sem_mkL1, sem_mkL2, sem_mkL3, sem_mkT0, sem_mkT1, sem_mkT2, sem_mkT3, Mini.isLst, Mini.fill, Mini.refs, Mini.ref1, Mini.backR, Option.map_some, Mini.unpD, Mini.bindL, Mini.bindT, Mini.itemsD, Mini.recM, Mini.isNon, Mini.wOut, Mini.outsOf, Mini.own, List.take, true_and, and_true, if_true, Bool.false_eq_true, if_false, at3_0, at3_1, at3_2, at2_0, at2_1, ix3_0, ix3_1, ix3_2, List.length_cons, List.length_nil, List.set_cons_zero, List.set_cons_succ, Nat.zero_add, Nat.reduceAdd, sem_fdivS, sem_mulS, sem_mod]
    (rw [wSs_cons]; simp (maxSteps := 2000000) (disch := first | assumption | omega) only [chain_at, el, tD, wSs_nil, wS_set, wS_unp, wS_sidx, wS_smt, wS_ex, wS_ret, wS_ite, wS_pass, wE_cst, wE_glb, wE_var, wE_sv, wE_mv, wE_rf, wE_frz, wE_op, wEs_nil, wEs_cons, wE_and, wE_or, wE_ite, wE_call, wE_bm, wE_pop, wK_none, wK_some, wR_seq, wR_rng1, wR_rng2, wR_zip, oS_some, bS_bl, iS_int, Mini.get, Mini.put, Mini.clear, Mini.back, Mini.scal, sem_neg, sem_not, sem_isN, sem_notN, sem_addI, sem_sub, sem_lt, sem_le, sem_gt, sem_ge, sem_eq, sem_ne, sem_in, sem_ni, sem_ixL, sem_ixT, sem_ixS, sem_lenL, sem_lenT, sem_lenS, sem_abs, sem_max2, sem_min2, sem_tupL, sem_tupT, sem_listL, sem_listT, sem_sorted, sem_all, sem_intB, sem_intI, sem_isL, sem_mkL0, sem_mkL1, sem_mkL2, sem_mkL3, sem_mkT0, sem_mkT1, sem_mkT2, sem_mkT3, Mini.isLst, Mini.fill, Mini.refs, Mini.ref1, Mini.backR, Option.map_some, Mini.unpD, Mini.bindL, Mini.bindT, Mini.itemsD, Mini.recM, Mini.isNon, Mini.wOut, Mini.outsOf, Mini.own, List.take, true_and, and_true, if_true, Bool.false_eq_true, if_false, at3_0, at3_1, at3_2, at2_0, at2_1, ix3_0, ix3_1, ix3_2, List.length_cons, List.length_nil, List.set_cons_zero, List.set_cons_succ, Nat.zero_add, Nat.reduceAdd, sem_fdivS, sem_mulS, sem_mod])
    refine wC_mono (behind_ok (n + 1) hs (lastC hs st0 L) hd hl (by rw [hH.1, hl]) h4) ?_
    rintro d os ⟨rfl, rfl⟩
    simp (maxSteps := 2000000) (disch := first | assumption | omega) only [eb, wSs_nil, wS_set, wS_unp, wS_sidx, wS_smt, wS_ex, wS_ret, wS_ite, wS_pass, wE_cst, wE_glb, wE_var, wE_sv, wE_mv, wE_rf, wE_frz, wE_op, wEs_nil, wEs_cons, wE_and, wE_or, wE_ite, wE_call, wE_bm, wE_pop, wK_none, wK_some, wR_seq, wR_rng1, wR_rng2, wR_zip, oS_some, bS_bl, iS_int, Mini.get, Mini.put, Mini.clear, Mini.back, Mini.scal, sem_neg, sem_not, sem_isN, sem_notN, sem_addI, sem_sub, sem_lt, sem_le, sem_gt, sem_ge, sem_eq, sem_ne, sem_in, sem_ni, sem_ixL, sem_ixT, sem_ixS, sem_lenL, sem_lenT, sem_lenS, sem_abs, sem_max2, sem_min2, sem_tupL, sem_tupT, sem_listL, sem_listT, sem_sorted, sem_all, sem_intB, sem_intI, sem_isL, sem_mkL0, sem_mkL1, sem_mkL2, sem_mkL3, sem_mkT0, sem_mkT1, sem_mkT2, sem_mkT3, Mini.isLst, Mini.fill, Mini.refs, Mini.ref1, Mini.backR, Option.map_some, Mini.unpD, Mini.bindL, Mini.bindT, Mini.itemsD, Mini.recM, Mini.isNon, Mini.wOut, Mini.outsOf, Mini.own, List.take, true_and, and_true, if_true, Bool.false_eq_true, if_false, at3_0, at3_1, at3_2, at2_0, at2_1, ix3_0, ix3_1, ix3_2, List.length_cons, List.length_nil, List.set_cons_zero, List.set_cons_succ, Nat.zero_add, Nat.reduceAdd, sem_fdivS, sem_mulS, sem_mod]
    have fin : ∃ (a' b' c' : Int) (L' : List OI) (x7' : Option D), ([some (pot a b c), some (.lst (oss.map oL)), some (.tup (hs.map .int)), some (.bl waits), some (.int size), some (.lst ((chain hs st0 L ++ [bh hs (lastC hs st0 L) hd]).map tD)), some (.lst ((L ++ [hd]).map tD)), some (.int (0 + (i : Int)))] : Sl) = [some (pot a' b' c'), some (.lst (oss.map oL)), some (.tup (hs.map .int)), some (.bl waits), some (.int size), some (.lst ((chain hs st0 L').map tD)), some (.lst (L'.map tD)), x7'] ∧ L'.length = i + 1 ∧ StOk many ties waits (lastC hs st0 L') ∧ (lastC hs st0 L').length = hs.length :=
      ⟨a, b, c, L ++ [hd], _, by rw [chain_snoc], by simp [e1], by rw [lastC_snoc]; exact st_next hB hH, by rw [lastC_snoc]; exact bh_len' hl hH.1⟩
    first
      | exact fin
      | (rw [wSs_nil]; exact fin)
  · rintro s ⟨a, b, c, L, x7, rfl, e1, hS, hl⟩
    (rw [wSs_cons]; simp (maxSteps := 2000000) (disch := first | assumption | omega) only [wSs_nil, wS_set, wS_unp, wS_sidx, wS_smt, wS_ex, wS_ret, wS_ite, wS_pass, wE_cst, wE_glb, wE_var, wE_sv, wE_mv, wE_rf, wE_frz, wE_op, wEs_nil, wEs_cons, wE_and, wE_or, wE_ite, wE_call, wE_bm, wE_pop, wK_none, wK_some, wR_seq, wR_rng1, wR_rng2, wR_zip, oS_some, bS_bl, iS_int, Mini.get, Mini.put, Mini.clear, Mini.back, Mini.scal, sem_neg, sem_not, sem_isN, sem_notN, sem_addI, sem_sub, sem_lt, sem_le, sem_gt, sem_ge, sem_eq, sem_ne, sem_in, sem_ni, sem_ixL, sem_ixT, sem_ixS, sem_lenL, sem_lenT, sem_lenS, sem_abs, sem_max2, sem_min2, sem_tupL, sem_tupT, sem_listL, sem_listT, sem_sorted, sem_all, sem_intB, sem_intI, sem_isL, sem_mkL0, sem_mkL1, sem_mkL2, sem_mkL3, sem_mkT0, sem_mkT1, sem_mkT2, sem_mkT3, Mini.isLst, Mini.fill, Mini.refs, Mini.ref1, Mini.backR, Option.map_some, Mini.unpD, Mini.bindL, Mini.bindT, Mini.itemsD, Mini.recM, Mini.isNon, Mini.wOut, Mini.outsOf, Mini.own, List.take, true_and, and_true, if_true, Bool.false_eq_true, if_false, at3_0, at3_1, at3_2, at2_0, at2_1, ix3_0, ix3_1, ix3_2, List.length_cons, List.length_nil, List.set_cons_zero, List.set_cons_succ, Nat.zero_add, Nat.reduceAdd, sem_fdivS, sem_mulS, sem_mod])
    exact ⟨st0, L, a, b, c, rfl, by omega, rfl⟩
theorem pot_ok (n : Nat) (ns : List Int) (k : Nat) (hk : k < 100) : wC (callF fds (n + 1) 2 [.scr ns, .int (0 + (k : Int))]) fun d os => ∃ a b c : Int, d = pot a b c ∧ os = [none, none] := by
  refine wC_call (fd := f2) rfl rfl ?_
  show wSs (callF fds n) f2.body [some (.scr ns), some (.int (0 + (k : Int))), none, none] _ _
  have hp : sem .pow [.int 10, .int 18] = some (.int (10 ^ (18 : Int).toNat)) := sem_pow ⟨by omega, by omega, by decide⟩
  have tail : ∀ v : Int, wSs (callF fds n) (dropS f2.body 2) [some (.scr ns), some (.int (0 + (k : Int))), some (.int v), none] (fun s => wOut f2 .non s fun d os => ∃ a b c : Int, d = pot a b c ∧ os = [none, none]) (fun d s => wOut f2 d s fun d os => ∃ a b c : Int, d = pot a b c ∧ os = [none, none]) := fun v => by
    simp only [f2, dropS]
    (rw [wSs_cons]; simp (maxSteps := 2000000) (disch := first | assumption | omega) only [wSs_nil, wS_set, wS_unp, wS_sidx, wS_smt, wS_ex, wS_ret, wS_ite, wS_pass, wE_cst, wE_glb, wE_var, wE_sv, wE_mv, wE_rf, wE_frz, wE_op, wEs_nil, wEs_cons, wE_and, wE_or, wE_ite, wE_call, wE_bm, wE_pop, wK_none, wK_some, wR_seq, wR_rng1, wR_rng2, wR_zip, oS_some, bS_bl, iS_int, Mini.get, Mini.put, Mini.clear, Mini.back, Mini.scal, sem_neg, sem_not, sem_isN, sem_notN, sem_addI, sem_sub, sem_lt, sem_le, sem_gt, sem_ge, sem_eq, sem_ne, sem_in, sem_ni, sem_ixL, sem_ixT, sem_ixS, sem_lenL, sem_lenT, sem_lenS, sem_abs, sem_max2, sem_min2, sem_tupL, sem_tupT, sem_listL, sem_listT, sem_sorted, sem_all, sem_intB, sem_intI, sem_isL, sem_mkL0, sem_mkL1, sem_mkL2, sem_mkL3, sem_mkT0, sem_mkT1, sem_mkT2, sem_mkT3, Mini.isLst, Mini.fill, Mini.refs, Mini.ref1, Mini.backR, Option.map_some, Mini.unpD, Mini.bindL, Mini.bindT, Mini.itemsD, Mini.recM, Mini.isNon, Mini.wOut, Mini.outsOf, Mini.own, List.take, true_and, and_true, if_true, Bool.false_eq_true, if_false, at3_0, at3_1, at3_2, at2_0, at2_1, ix3_0, ix3_1, ix3_2, List.length_cons, List.length_nil, List.set_cons_zero, List.set_cons_succ, Nat.zero_add, Nat.reduceAdd, sem_fdivS, sem_mulS, sem_mod])
    (rw [wSs_cons]; simp (maxSteps := 2000000) (disch := first | assumption | omega) only [hp, wSs_nil, wS_set, wS_unp, wS_sidx, wS_smt, wS_ex, wS_ret, wS_ite, wS_pass, wE_cst, wE_glb, wE_var, wE_sv, wE_mv, wE_rf, wE_frz, wE_op, wEs_nil, wEs_cons, wE_and, wE_or, wE_ite, wE_call, wE_bm, wE_pop, wK_none, wK_some, wR_seq, wR_rng1, wR_rng2, wR_zip, oS_some, bS_bl, iS_int, Mini.get, Mini.put, Mini.clear, Mini.back, Mini.scal, sem_neg, sem_not, sem_isN, sem_notN, sem_addI, sem_sub, sem_lt, sem_le, sem_gt, sem_ge, sem_eq, sem_ne, sem_in, sem_ni, sem_ixL, sem_ixT, sem_ixS, sem_lenL, sem_lenT, sem_lenS, sem_abs, sem_max2, sem_min2, sem_tupL, sem_tupT, sem_listL, sem_listT, sem_sorted, sem_all, sem_intB, sem_intI, sem_isL, sem_mkL0, sem_mkL1, sem_mkL2, sem_mkL3, sem_mkT0, sem_mkT1, sem_mkT2, sem_mkT3, Mini.isLst, Mini.fill, Mini.refs, Mini.ref1, Mini.backR, Option.map_some, Mini.unpD, Mini.bindL, Mini.bindT, Mini.itemsD, Mini.recM, Mini.isNon, Mini.wOut, Mini.outsOf, Mini.own, List.take, true_and, and_true, if_true, Bool.false_eq_true, if_false, at3_0, at3_1, at3_2, at2_0, at2_1, ix3_0, ix3_1, ix3_2, List.length_cons, List.length_nil, List.set_cons_zero, List.set_cons_succ, Nat.zero_add, Nat.reduceAdd, sem_fdivS, sem_mulS, sem_mod])
    exact ⟨_, _, _, rfl⟩
  simp only [f2]
  (rw [wSs_cons]; simp (maxSteps := 2000000) (disch := first | assumption | omega) only [wSs_nil, wS_set, wS_unp, wS_sidx, wS_smt, wS_ex, wS_ret, wS_ite, wS_pass, wE_cst, wE_glb, wE_var, wE_sv, wE_mv, wE_rf, wE_frz, wE_op, wEs_nil, wEs_cons, wE_and, wE_or, wE_ite, wE_call, wE_bm, wE_pop, wK_none, wK_some, wR_seq, wR_rng1, wR_rng2, wR_zip, oS_some, bS_bl, iS_int, Mini.get, Mini.put, Mini.clear, Mini.back, Mini.scal, sem_neg, sem_not, sem_isN, sem_notN, sem_addI, sem_sub, sem_lt, sem_le, sem_gt, sem_ge, sem_eq, sem_ne, sem_in, sem_ni, sem_ixL, sem_ixT, sem_ixS, sem_lenL, sem_lenT, sem_lenS, sem_abs, sem_max2, sem_min2, sem_tupL, sem_tupT, sem_listL, sem_listT, sem_sorted, sem_all, sem_intB, sem_intI, sem_isL, sem_mkL0, sem_mkL1, sem_mkL2, sem_mkL3, sem_mkT0, sem_mkT1, sem_mkT2, sem_mkT3, Mini.isLst, Mini.fill, Mini.refs, Mini.ref1, Mini.backR, Option.map_some, Mini.unpD, Mini.bindL, Mini.bindT, Mini.itemsD, Mini.recM, Mini.isNon, Mini.wOut, Mini.outsOf, Mini.own, List.take, true_and, and_true, if_true, Bool.false_eq_true, if_false, at3_0, at3_1, at3_2, at2_0, at2_1, ix3_0, ix3_1, ix3_2, List.length_cons, List.length_nil, List.set_cons_zero, List.set_cons_succ, Nat.zero_add, Nat.reduceAdd, sem_fdivS, sem_mulS, sem_mod])
  (rw [wSs_cons]; simp (maxSteps := 2000000) (disch := first | assumption | omega) only [wSs_nil, wS_set, wS_unp, wS_sidx, wS_smt, wS_ex, wS_ret, wS_ite, wS_pass, wE_cst, wE_glb, wE_var, wE_sv, wE_mv, wE_rf, wE_frz, wE_op, wEs_nil, wEs_cons, wE_and, wE_or, wE_ite, wE_call, wE_bm, wE_pop, wK_none, wK_some, wR_seq, wR_rng1, wR_rng2, wR_zip, oS_some, bS_bl, iS_int, Mini.get, Mini.put, Mini.clear, Mini.back, Mini.scal, sem_neg, sem_not, sem_isN, sem_notN, sem_addI, sem_sub, sem_lt, sem_le, sem_gt, sem_ge, sem_eq, sem_ne, sem_in, sem_ni, sem_ixL, sem_ixT, sem_ixS, sem_lenL, sem_lenT, sem_lenS, sem_abs, sem_max2, sem_min2, sem_tupL, sem_tupT, sem_listL, sem_listT, sem_sorted, sem_all, sem_intB, sem_intI, sem_isL, sem_mkL0, sem_mkL1, sem_mkL2, sem_mkL3, sem_mkT0, sem_mkT1, sem_mkT2, sem_mkT3, Mini.isLst, Mini.fill, Mini.refs, Mini.ref1, Mini.backR, Option.map_some, Mini.unpD, Mini.bindL, Mini.bindT, Mini.itemsD, Mini.recM, Mini.isNon, Mini.wOut, Mini.outsOf, Mini.own, List.take, true_and, and_true, if_true, Bool.false_eq_true, if_false, at3_0, at3_1, at3_2, at2_0, at2_1, ix3_0, ix3_1, ix3_2, List.length_cons, List.length_nil, List.set_cons_zero, List.set_cons_succ, Nat.zero_add, Nat.reduceAdd, sem_fdivS, sem_mulS, sem_mod])
  split
  · rename_i hlt
    have hlt := of_decide_eq_true hlt
    have ei : L2.atI ns (0 + (k : Int)) = some (ns.getD k 0) := by
      have hkl : k < ns.length := by omega
      unfold L2.atI L2.ixN
      rw [if_pos (by omega), if_pos (by omega)]
      show ns[(0 + (k : Int)).toNat]? = _
      rw [show (0 + (k : Int)).toNat = k from by omega, List.getD_eq_getElem?_getD, List.getElem?_eq_getElem hkl]
      rfl
    (rw [wSs_cons]; simp (maxSteps := 2000000) (disch := first | assumption | omega) only [ei, wSs_nil, wS_set, wS_unp, wS_sidx, wS_smt, wS_ex, wS_ret, wS_ite, wS_pass, wE_cst, wE_glb, wE_var, wE_sv, wE_mv, wE_rf, wE_frz, wE_op, wEs_nil, wEs_cons, wE_and, wE_or, wE_ite, wE_call, wE_bm, wE_pop, wK_none, wK_some, wR_seq, wR_rng1, wR_rng2, wR_zip, oS_some, bS_bl, iS_int, Mini.get, Mini.put, Mini.clear, Mini.back, Mini.scal, sem_neg, sem_not, sem_isN, sem_notN, sem_addI, sem_sub, sem_lt, sem_le, sem_gt, sem_ge, sem_eq, sem_ne, sem_in, sem_ni, sem_ixL, sem_ixT, sem_ixS, sem_lenL, sem_lenT, sem_lenS, sem_abs, sem_max2, sem_min2, sem_tupL, sem_tupT, sem_listL, sem_listT, sem_sorted, sem_all, sem_intB, sem_intI, sem_isL, sem_mkL0, sem_mkL1, sem_mkL2, sem_mkL3, sem_mkT0, sem_mkT1, sem_mkT2, sem_mkT3, Mini.isLst, Mini.fill, Mini.refs, Mini.ref1, Mini.backR, Option.map_some, Mini.unpD, Mini.bindL, Mini.bindT, Mini.itemsD, Mini.recM, Mini.isNon, Mini.wOut, Mini.outsOf, Mini.own, List.take, true_and, and_true, if_true, Bool.false_eq_true, if_false, at3_0, at3_1, at3_2, at2_0, at2_1, ix3_0, ix3_1, ix3_2, List.length_cons, List.length_nil, List.set_cons_zero, List.set_cons_succ, Nat.zero_add, Nat.reduceAdd, sem_fdivS, sem_mulS, sem_mod])
    first
      | exact tail _
      | (rw [wSs_nil]; exact tail _)
  · first
      | exact tail _
      | (rw [wSs_nil]; exact tail _)
theorem pl_tD {S : List OI} : pl 2 (.lst (S.map tD)) = true := by
  show (S.map tD).all (pl 1) = true
  rw [List.all_map, List.all_eq_true]
  intro st _
  show (st.map oD).all (pl 0) = true
  exact all_o
end Lk51

namespace Lk51
open Mini
theorem set0 {S : List OI} {d : D} (hs : List Int) : True := trivial
theorem right_ok (n : Nat) (a b c : Int) : wC (callF fds (n + 6) 18 [pot a b c]) fun d os => d = .bl true ∧ ∃ x, os = [x] := by
  refine wC_call (fd := f18) rfl rfl ?_
  show wSs (callF fds (n + 5)) f18.body [some (pot a b c), none, none, none, none, none, none, none, none, none, none] _ _
  simp only [f18]
  (rw [wSs_cons]; simp (maxSteps := 2000000) (disch := first | assumption | omega) only [wSs_nil, wS_set, wS_unp, wS_sidx, wS_smt, wS_ex, wS_ret, wS_ite, wS_pass, wE_cst, wE_glb, wE_var, wE_sv, wE_mv, wE_rf, wE_frz, wE_op, wEs_nil, wEs_cons, wE_and, wE_or, wE_ite, wE_call, wE_bm, wE_pop, wK_none, wK_some, wR_seq, wR_rng1, wR_rng2, wR_zip, oS_some, bS_bl, iS_int, Mini.get, Mini.put, Mini.clear, Mini.back, Mini.scal, sem_neg, sem_not, sem_isN, sem_notN, sem_addI, sem_sub, sem_lt, sem_le, sem_gt, sem_ge, sem_eq, sem_ne, sem_in, sem_ni, sem_ixL, sem_ixT, sem_ixS, sem_lenL, sem_lenT, sem_lenS, sem_abs, sem_max2, sem_min2, sem_tupL, sem_tupT, sem_listL, sem_listT, sem_sorted, sem_all, sem_intB, sem_intI, sem_isL, sem_mkL0, sem_mkL1, sem_mkL2, sem_mkL3, sem_mkT0, sem_mkT1, sem_mkT2, sem_mkT3, Mini.isLst, Mini.fill, Mini.refs, Mini.ref1, Mini.backR, Option.map_some, Mini.unpD, Mini.bindL, Mini.bindT, Mini.itemsD, Mini.recM, Mini.isNon, Mini.wOut, Mini.outsOf, Mini.own, List.take, true_and, and_true, if_true, Bool.false_eq_true, if_false, at3_0, at3_1, at3_2, at2_0, at2_1, ix3_0, ix3_1, ix3_2, List.length_cons, List.length_nil, List.set_cons_zero, List.set_cons_succ, Nat.zero_add, Nat.reduceAdd, sem_fdivS, sem_mulS, sem_mod])
  refine wC_mono (take_ok (n + 4) a b c 3 (by omega) (by omega)) ?_
  rintro d os ⟨w, a, b, c, rfl, _, _, rfl⟩
  simp (maxSteps := 2000000) (disch := first | assumption | omega) only [eqD_int, wSs_nil, wS_set, wS_unp, wS_sidx, wS_smt, wS_ex, wS_ret, wS_ite, wS_pass, wE_cst, wE_glb, wE_var, wE_sv, wE_mv, wE_rf, wE_frz, wE_op, wEs_nil, wEs_cons, wE_and, wE_or, wE_ite, wE_call, wE_bm, wE_pop, wK_none, wK_some, wR_seq, wR_rng1, wR_rng2, wR_zip, oS_some, bS_bl, iS_int, Mini.get, Mini.put, Mini.clear, Mini.back, Mini.scal, sem_neg, sem_not, sem_isN, sem_notN, sem_addI, sem_sub, sem_lt, sem_le, sem_gt, sem_ge, sem_eq, sem_ne, sem_in, sem_ni, sem_ixL, sem_ixT, sem_ixS, sem_lenL, sem_lenT, sem_lenS, sem_abs, sem_max2, sem_min2, sem_tupL, sem_tupT, sem_listL, sem_listT, sem_sorted, sem_all, sem_intB, sem_intI, sem_isL, sem_mkL0, sem_mkL1, sem_mkL2, sem_mkL3, sem_mkT0, sem_mkT1, sem_mkT2, sem_mkT3, Mini.isLst, Mini.fill, Mini.refs, Mini.ref1, Mini.backR, Option.map_some, Mini.unpD, Mini.bindL, Mini.bindT, Mini.itemsD, Mini.recM, Mini.isNon, Mini.wOut, Mini.outsOf, Mini.own, List.take, true_and, and_true, if_true, Bool.false_eq_true, if_false, at3_0, at3_1, at3_2, at2_0, at2_1, ix3_0, ix3_1, ix3_2, List.length_cons, List.length_nil, List.set_cons_zero, List.set_cons_succ, Nat.zero_add, Nat.reduceAdd, sem_fdivS, sem_mulS, sem_mod]
  generalize decide (w = 2) = waits
  (rw [wSs_cons]; simp (maxSteps := 2000000) (disch := first | assumption | omega) only [wSs_nil, wS_set, wS_unp, wS_sidx, wS_smt, wS_ex, wS_ret, wS_ite, wS_pass, wE_cst, wE_glb, wE_var, wE_sv, wE_mv, wE_rf, wE_frz, wE_op, wEs_nil, wEs_cons, wE_and, wE_or, wE_ite, wE_call, wE_bm, wE_pop, wK_none, wK_some, wR_seq, wR_rng1, wR_rng2, wR_zip, oS_some, bS_bl, iS_int, Mini.get, Mini.put, Mini.clear, Mini.back, Mini.scal, sem_neg, sem_not, sem_isN, sem_notN, sem_addI, sem_sub, sem_lt, sem_le, sem_gt, sem_ge, sem_eq, sem_ne, sem_in, sem_ni, sem_ixL, sem_ixT, sem_ixS, sem_lenL, sem_lenT, sem_lenS, sem_abs, sem_max2, sem_min2, sem_tupL, sem_tupT, sem_listL, sem_listT, sem_sorted, sem_all, sem_intB, sem_intI, sem_isL, sem_mkL0, sem_mkL1, sem_mkL2, sem_mkL3, sem_mkT0, sem_mkT1, sem_mkT2, sem_mkT3, Mini.isLst, Mini.fill, Mini.refs, Mini.ref1, Mini.backR, Option.map_some, Mini.unpD, Mini.bindL, Mini.bindT, Mini.itemsD, Mini.recM, Mini.isNon, Mini.wOut, Mini.outsOf, Mini.own, List.take, true_and, and_true, if_true, Bool.false_eq_true, if_false, at3_0, at3_1, at3_2, at2_0, at2_1, ix3_0, ix3_1, ix3_2, List.length_cons, List.length_nil, List.set_cons_zero, List.set_cons_succ, Nat.zero_add, Nat.reduceAdd, sem_fdivS, sem_mulS, sem_mod])
  refine wC_mono (take_ok (n + 4) a b c 3 (by omega) (by omega)) ?_
  rintro d os ⟨r, a, b, c, rfl, r1, r2, rfl⟩
  have hr : ∃ v : Int, atD [.int 7, .int 61, .int 501] r = some (.int v) ∧ 1 ≤ v ∧ v ≤ 501 := by
    have : r = 0 ∨ r = 1 ∨ r = 2 := by omega
    rcases this with rfl | rfl | rfl
    · exact ⟨7, at3_0, by omega, by omega⟩
    · exact ⟨61, at3_1, by omega, by omega⟩
    · exact ⟨501, at3_2, by omega, by omega⟩
  obtain ⟨v, hv, v1, v2⟩ := hr
  simp (maxSteps := 2000000) (disch := first | assumption | omega) only [hv, wSs_nil, wS_set, wS_unp, wS_sidx, wS_smt, wS_ex, wS_ret, wS_ite, wS_pass, wE_cst, wE_glb, wE_var, wE_sv, wE_mv, wE_rf, wE_frz, wE_op, wEs_nil, wEs_cons, wE_and, wE_or, wE_ite, wE_call, wE_bm, wE_pop, wK_none, wK_some, wR_seq, wR_rng1, wR_rng2, wR_zip, oS_some, bS_bl, iS_int, Mini.get, Mini.put, Mini.clear, Mini.back, Mini.scal, sem_neg, sem_not, sem_isN, sem_notN, sem_addI, sem_sub, sem_lt, sem_le, sem_gt, sem_ge, sem_eq, sem_ne, sem_in, sem_ni, sem_ixL, sem_ixT, sem_ixS, sem_lenL, sem_lenT, sem_lenS, sem_abs, sem_max2, sem_min2, sem_tupL, sem_tupT, sem_listL, sem_listT, sem_sorted, sem_all, sem_intB, sem_intI, sem_isL, sem_mkL0, sem_mkL1, sem_mkL2, sem_mkL3, sem_mkT0, sem_mkT1, sem_mkT2, sem_mkT3, Mini.isLst, Mini.fill, Mini.refs, Mini.ref1, Mini.backR, Option.map_some, Mini.unpD, Mini.bindL, Mini.bindT, Mini.itemsD, Mini.recM, Mini.isNon, Mini.wOut, Mini.outsOf, Mini.own, List.take, true_and, and_true, if_true, Bool.false_eq_true, if_false, at3_0, at3_1, at3_2, at2_0, at2_1, ix3_0, ix3_1, ix3_2, List.length_cons, List.length_nil, List.set_cons_zero, List.set_cons_succ, Nat.zero_add, Nat.reduceAdd, sem_fdivS, sem_mulS, sem_mod]
  refine wC_mono (take_ok (n + 4) a b c v (by omega) (by omega)) ?_
  rintro d os ⟨size, a, b, c, rfl, s1, s2, rfl⟩
  simp (maxSteps := 2000000) (disch := first | assumption | omega) only [wSs_nil, wS_set, wS_unp, wS_sidx, wS_smt, wS_ex, wS_ret, wS_ite, wS_pass, wE_cst, wE_glb, wE_var, wE_sv, wE_mv, wE_rf, wE_frz, wE_op, wEs_nil, wEs_cons, wE_and, wE_or, wE_ite, wE_call, wE_bm, wE_pop, wK_none, wK_some, wR_seq, wR_rng1, wR_rng2, wR_zip, oS_some, bS_bl, iS_int, Mini.get, Mini.put, Mini.clear, Mini.back, Mini.scal, sem_neg, sem_not, sem_isN, sem_notN, sem_addI, sem_sub, sem_lt, sem_le, sem_gt, sem_ge, sem_eq, sem_ne, sem_in, sem_ni, sem_ixL, sem_ixT, sem_ixS, sem_lenL, sem_lenT, sem_lenS, sem_abs, sem_max2, sem_min2, sem_tupL, sem_tupT, sem_listL, sem_listT, sem_sorted, sem_all, sem_intB, sem_intI, sem_isL, sem_mkL0, sem_mkL1, sem_mkL2, sem_mkL3, sem_mkT0, sem_mkT1, sem_mkT2, sem_mkT3, Mini.isLst, Mini.fill, Mini.refs, Mini.ref1, Mini.backR, Option.map_some, Mini.unpD, Mini.bindL, Mini.bindT, Mini.itemsD, Mini.recM, Mini.isNon, Mini.wOut, Mini.outsOf, Mini.own, List.take, true_and, and_true, if_true, Bool.false_eq_true, if_false, at3_0, at3_1, at3_2, at2_0, at2_1, ix3_0, ix3_1, ix3_2, List.length_cons, List.length_nil, List.set_cons_zero, List.set_cons_succ, Nat.zero_add, Nat.reduceAdd, sem_fdivS, sem_mulS, sem_mod]
  (rw [wSs_cons]; simp (maxSteps := 2000000) (disch := first | assumption | omega) only [wSs_nil, wS_set, wS_unp, wS_sidx, wS_smt, wS_ex, wS_ret, wS_ite, wS_pass, wE_cst, wE_glb, wE_var, wE_sv, wE_mv, wE_rf, wE_frz, wE_op, wEs_nil, wEs_cons, wE_and, wE_or, wE_ite, wE_call, wE_bm, wE_pop, wK_none, wK_some, wR_seq, wR_rng1, wR_rng2, wR_zip, oS_some, bS_bl, iS_int, Mini.get, Mini.put, Mini.clear, Mini.back, Mini.scal, sem_neg, sem_not, sem_isN, sem_notN, sem_addI, sem_sub, sem_lt, sem_le, sem_gt, sem_ge, sem_eq, sem_ne, sem_in, sem_ni, sem_ixL, sem_ixT, sem_ixS, sem_lenL, sem_lenT, sem_lenS, sem_abs, sem_max2, sem_min2, sem_tupL, sem_tupT, sem_listL, sem_listT, sem_sorted, sem_all, sem_intB, sem_intI, sem_isL, sem_mkL0, sem_mkL1, sem_mkL2, sem_mkL3, sem_mkT0, sem_mkT1, sem_mkT2, sem_mkT3, Mini.isLst, Mini.fill, Mini.refs, Mini.ref1, Mini.backR, Option.map_some, Mini.unpD, Mini.bindL, Mini.bindT, Mini.itemsD, Mini.recM, Mini.isNon, Mini.wOut, Mini.outsOf, Mini.own, List.take, true_and, and_true, if_true, Bool.false_eq_true, if_false, at3_0, at3_1, at3_2, at2_0, at2_1, ix3_0, ix3_1, ix3_2, List.length_cons, List.length_nil, List.set_cons_zero, List.set_cons_succ, Nat.zero_add, Nat.reduceAdd, sem_fdivS, sem_mulS, sem_mod])
  refine wC_mono (take_ok (n + 4) a b c 17 (by omega) (by omega)) ?_
  rintro d os ⟨letters, a, b, c, rfl, l1, l2, rfl⟩
  simp (maxSteps := 2000000) (disch := first | assumption | omega) only [wSs_nil, wS_set, wS_unp, wS_sidx, wS_smt, wS_ex, wS_ret, wS_ite, wS_pass, wE_cst, wE_glb, wE_var, wE_sv, wE_mv, wE_rf, wE_frz, wE_op, wEs_nil, wEs_cons, wE_and, wE_or, wE_ite, wE_call, wE_bm, wE_pop, wK_none, wK_some, wR_seq, wR_rng1, wR_rng2, wR_zip, oS_some, bS_bl, iS_int, Mini.get, Mini.put, Mini.clear, Mini.back, Mini.scal, sem_neg, sem_not, sem_isN, sem_notN, sem_addI, sem_sub, sem_lt, sem_le, sem_gt, sem_ge, sem_eq, sem_ne, sem_in, sem_ni, sem_ixL, sem_ixT, sem_ixS, sem_lenL, sem_lenT, sem_lenS, sem_abs, sem_max2, sem_min2, sem_tupL, sem_tupT, sem_listL, sem_listT, sem_sorted, sem_all, sem_intB, sem_intI, sem_isL, sem_mkL0, sem_mkL1, sem_mkL2, sem_mkL3, sem_mkT0, sem_mkT1, sem_mkT2, sem_mkT3, Mini.isLst, Mini.fill, Mini.refs, Mini.ref1, Mini.backR, Option.map_some, Mini.unpD, Mini.bindL, Mini.bindT, Mini.itemsD, Mini.recM, Mini.isNon, Mini.wOut, Mini.outsOf, Mini.own, List.take, true_and, and_true, if_true, Bool.false_eq_true, if_false, at3_0, at3_1, at3_2, at2_0, at2_1, ix3_0, ix3_1, ix3_2, List.length_cons, List.length_nil, List.set_cons_zero, List.set_cons_succ, Nat.zero_add, Nat.reduceAdd, sem_fdivS, sem_mulS, sem_mod]
  (rw [wSs_cons]; simp (maxSteps := 2000000) (disch := first | assumption | omega) only [wSs_nil, wS_set, wS_unp, wS_sidx, wS_smt, wS_ex, wS_ret, wS_ite, wS_pass, wE_cst, wE_glb, wE_var, wE_sv, wE_mv, wE_rf, wE_frz, wE_op, wEs_nil, wEs_cons, wE_and, wE_or, wE_ite, wE_call, wE_bm, wE_pop, wK_none, wK_some, wR_seq, wR_rng1, wR_rng2, wR_zip, oS_some, bS_bl, iS_int, Mini.get, Mini.put, Mini.clear, Mini.back, Mini.scal, sem_neg, sem_not, sem_isN, sem_notN, sem_addI, sem_sub, sem_lt, sem_le, sem_gt, sem_ge, sem_eq, sem_ne, sem_in, sem_ni, sem_ixL, sem_ixT, sem_ixS, sem_lenL, sem_lenT, sem_lenS, sem_abs, sem_max2, sem_min2, sem_tupL, sem_tupT, sem_listL, sem_listT, sem_sorted, sem_all, sem_intB, sem_intI, sem_isL, sem_mkL0, sem_mkL1, sem_mkL2, sem_mkL3, sem_mkT0, sem_mkT1, sem_mkT2, sem_mkT3, Mini.isLst, Mini.fill, Mini.refs, Mini.ref1, Mini.backR, Option.map_some, Mini.unpD, Mini.bindL, Mini.bindT, Mini.itemsD, Mini.recM, Mini.isNon, Mini.wOut, Mini.outsOf, Mini.own, List.take, true_and, and_true, if_true, Bool.false_eq_true, if_false, at3_0, at3_1, at3_2, at2_0, at2_1, ix3_0, ix3_1, ix3_2, List.length_cons, List.length_nil, List.set_cons_zero, List.set_cons_succ, Nat.zero_add, Nat.reduceAdd, sem_fdivS, sem_mulS, sem_mod])
  refine wC_mono (ground_ok n a b c waits) ?_
  rintro d os ⟨many, ties, a, b, c, rfl, h1, h2, h3, hB, rfl⟩
  simp (maxSteps := 2000000) (disch := first | assumption | omega) only [wSs_nil, wS_set, wS_unp, wS_sidx, wS_smt, wS_ex, wS_ret, wS_ite, wS_pass, wE_cst, wE_glb, wE_var, wE_sv, wE_mv, wE_rf, wE_frz, wE_op, wEs_nil, wEs_cons, wE_and, wE_or, wE_ite, wE_call, wE_bm, wE_pop, wK_none, wK_some, wR_seq, wR_rng1, wR_rng2, wR_zip, oS_some, bS_bl, iS_int, Mini.get, Mini.put, Mini.clear, Mini.back, Mini.scal, sem_neg, sem_not, sem_isN, sem_notN, sem_addI, sem_sub, sem_lt, sem_le, sem_gt, sem_ge, sem_eq, sem_ne, sem_in, sem_ni, sem_ixL, sem_ixT, sem_ixS, sem_lenL, sem_lenT, sem_lenS, sem_abs, sem_max2, sem_min2, sem_tupL, sem_tupT, sem_listL, sem_listT, sem_sorted, sem_all, sem_intB, sem_intI, sem_isL, sem_mkL0, sem_mkL1, sem_mkL2, sem_mkL3, sem_mkT0, sem_mkT1, sem_mkT2, sem_mkT3, Mini.isLst, Mini.fill, Mini.refs, Mini.ref1, Mini.backR, Option.map_some, Mini.unpD, Mini.bindL, Mini.bindT, Mini.itemsD, Mini.recM, Mini.isNon, Mini.wOut, Mini.outsOf, Mini.own, List.take, true_and, and_true, if_true, Bool.false_eq_true, if_false, at3_0, at3_1, at3_2, at2_0, at2_1, ix3_0, ix3_1, ix3_2, List.length_cons, List.length_nil, List.set_cons_zero, List.set_cons_succ, Nat.zero_add, Nat.reduceAdd, sem_fdivS, sem_mulS, sem_mod]
  (rw [wSs_cons]; simp (maxSteps := 2000000) (disch := first | assumption | omega) only [wSs_nil, wS_set, wS_unp, wS_sidx, wS_smt, wS_ex, wS_ret, wS_ite, wS_pass, wE_cst, wE_glb, wE_var, wE_sv, wE_mv, wE_rf, wE_frz, wE_op, wEs_nil, wEs_cons, wE_and, wE_or, wE_ite, wE_call, wE_bm, wE_pop, wK_none, wK_some, wR_seq, wR_rng1, wR_rng2, wR_zip, oS_some, bS_bl, iS_int, Mini.get, Mini.put, Mini.clear, Mini.back, Mini.scal, sem_neg, sem_not, sem_isN, sem_notN, sem_addI, sem_sub, sem_lt, sem_le, sem_gt, sem_ge, sem_eq, sem_ne, sem_in, sem_ni, sem_ixL, sem_ixT, sem_ixS, sem_lenL, sem_lenT, sem_lenS, sem_abs, sem_max2, sem_min2, sem_tupL, sem_tupT, sem_listL, sem_listT, sem_sorted, sem_all, sem_intB, sem_intI, sem_isL, sem_mkL0, sem_mkL1, sem_mkL2, sem_mkL3, sem_mkT0, sem_mkT1, sem_mkT2, sem_mkT3, Mini.isLst, Mini.fill, Mini.refs, Mini.ref1, Mini.backR, Option.map_some, Mini.unpD, Mini.bindL, Mini.bindT, Mini.itemsD, Mini.recM, Mini.isNon, Mini.wOut, Mini.outsOf, Mini.own, List.take, true_and, and_true, if_true, Bool.false_eq_true, if_false, at3_0, at3_1, at3_2, at2_0, at2_1, ix3_0, ix3_1, ix3_2, List.length_cons, List.length_nil, List.set_cons_zero, List.set_cons_succ, Nat.zero_add, Nat.reduceAdd, sem_fdivS, sem_mulS, sem_mod])
  refine wC_mono (homes_ok (n + 3) a b c many letters h1 h2 l1 (by omega)) ?_
  rintro d os ⟨hs, a, b, c, rfl, h4, rfl⟩
  simp (maxSteps := 2000000) (disch := first | assumption | omega) only [wSs_nil, wS_set, wS_unp, wS_sidx, wS_smt, wS_ex, wS_ret, wS_ite, wS_pass, wE_cst, wE_glb, wE_var, wE_sv, wE_mv, wE_rf, wE_frz, wE_op, wEs_nil, wEs_cons, wE_and, wE_or, wE_ite, wE_call, wE_bm, wE_pop, wK_none, wK_some, wR_seq, wR_rng1, wR_rng2, wR_zip, oS_some, bS_bl, iS_int, Mini.get, Mini.put, Mini.clear, Mini.back, Mini.scal, sem_neg, sem_not, sem_isN, sem_notN, sem_addI, sem_sub, sem_lt, sem_le, sem_gt, sem_ge, sem_eq, sem_ne, sem_in, sem_ni, sem_ixL, sem_ixT, sem_ixS, sem_lenL, sem_lenT, sem_lenS, sem_abs, sem_max2, sem_min2, sem_tupL, sem_tupT, sem_listL, sem_listT, sem_sorted, sem_all, sem_intB, sem_intI, sem_isL, sem_mkL0, sem_mkL1, sem_mkL2, sem_mkL3, sem_mkT0, sem_mkT1, sem_mkT2, sem_mkT3, Mini.isLst, Mini.fill, Mini.refs, Mini.ref1, Mini.backR, Option.map_some, Mini.unpD, Mini.bindL, Mini.bindT, Mini.itemsD, Mini.recM, Mini.isNon, Mini.wOut, Mini.outsOf, Mini.own, List.take, true_and, and_true, if_true, Bool.false_eq_true, if_false, at3_0, at3_1, at3_2, at2_0, at2_1, ix3_0, ix3_1, ix3_2, List.length_cons, List.length_nil, List.set_cons_zero, List.set_cons_succ, Nat.zero_add, Nat.reduceAdd, sem_fdivS, sem_mulS, sem_mod]
  (rw [wSs_cons]; simp (maxSteps := 2000000) (disch := first | assumption | omega) only [wSs_nil, wS_set, wS_unp, wS_sidx, wS_smt, wS_ex, wS_ret, wS_ite, wS_pass, wE_cst, wE_glb, wE_var, wE_sv, wE_mv, wE_rf, wE_frz, wE_op, wEs_nil, wEs_cons, wE_and, wE_or, wE_ite, wE_call, wE_bm, wE_pop, wK_none, wK_some, wR_seq, wR_rng1, wR_rng2, wR_zip, oS_some, bS_bl, iS_int, Mini.get, Mini.put, Mini.clear, Mini.back, Mini.scal, sem_neg, sem_not, sem_isN, sem_notN, sem_addI, sem_sub, sem_lt, sem_le, sem_gt, sem_ge, sem_eq, sem_ne, sem_in, sem_ni, sem_ixL, sem_ixT, sem_ixS, sem_lenL, sem_lenT, sem_lenS, sem_abs, sem_max2, sem_min2, sem_tupL, sem_tupT, sem_listL, sem_listT, sem_sorted, sem_all, sem_intB, sem_intI, sem_isL, sem_mkL0, sem_mkL1, sem_mkL2, sem_mkL3, sem_mkT0, sem_mkT1, sem_mkT2, sem_mkT3, Mini.isLst, Mini.fill, Mini.refs, Mini.ref1, Mini.backR, Option.map_some, Mini.unpD, Mini.bindL, Mini.bindT, Mini.itemsD, Mini.recM, Mini.isNon, Mini.wOut, Mini.outsOf, Mini.own, List.take, true_and, and_true, if_true, Bool.false_eq_true, if_false, at3_0, at3_1, at3_2, at2_0, at2_1, ix3_0, ix3_1, ix3_2, List.length_cons, List.length_nil, List.set_cons_zero, List.set_cons_succ, Nat.zero_add, Nat.reduceAdd, sem_fdivS, sem_mulS, sem_mod])
  refine wC_mono (outs_ok (n + 4) many ties h1 h2 h3 hB) ?_
  rintro d os ⟨oss, rfl, hO, rfl⟩
  simp (maxSteps := 2000000) (disch := first | assumption | omega) only [wSs_nil, wS_set, wS_unp, wS_sidx, wS_smt, wS_ex, wS_ret, wS_ite, wS_pass, wE_cst, wE_glb, wE_var, wE_sv, wE_mv, wE_rf, wE_frz, wE_op, wEs_nil, wEs_cons, wE_and, wE_or, wE_ite, wE_call, wE_bm, wE_pop, wK_none, wK_some, wR_seq, wR_rng1, wR_rng2, wR_zip, oS_some, bS_bl, iS_int, Mini.get, Mini.put, Mini.clear, Mini.back, Mini.scal, sem_neg, sem_not, sem_isN, sem_notN, sem_addI, sem_sub, sem_lt, sem_le, sem_gt, sem_ge, sem_eq, sem_ne, sem_in, sem_ni, sem_ixL, sem_ixT, sem_ixS, sem_lenL, sem_lenT, sem_lenS, sem_abs, sem_max2, sem_min2, sem_tupL, sem_tupT, sem_listL, sem_listT, sem_sorted, sem_all, sem_intB, sem_intI, sem_isL, sem_mkL0, sem_mkL1, sem_mkL2, sem_mkL3, sem_mkT0, sem_mkT1, sem_mkT2, sem_mkT3, Mini.isLst, Mini.fill, Mini.refs, Mini.ref1, Mini.backR, Option.map_some, Mini.unpD, Mini.bindL, Mini.bindT, Mini.itemsD, Mini.recM, Mini.isNon, Mini.wOut, Mini.outsOf, Mini.own, List.take, true_and, and_true, if_true, Bool.false_eq_true, if_false, at3_0, at3_1, at3_2, at2_0, at2_1, ix3_0, ix3_1, ix3_2, List.length_cons, List.length_nil, List.set_cons_zero, List.set_cons_succ, Nat.zero_add, Nat.reduceAdd, sem_fdivS, sem_mulS, sem_mod]
  refine wC_mono (walked_ok (n + 2) a b c many size ties oss hs waits h1 h2 hB h3 hO h4 s1 (by omega)) ?_
  rintro d os ⟨st0, L, a, b, c, rfl, hL, rfl⟩
  simp (maxSteps := 2000000) (disch := first | assumption | omega) only [wSs_nil, wS_set, wS_unp, wS_sidx, wS_smt, wS_ex, wS_ret, wS_ite, wS_pass, wE_cst, wE_glb, wE_var, wE_sv, wE_mv, wE_rf, wE_frz, wE_op, wEs_nil, wEs_cons, wE_and, wE_or, wE_ite, wE_call, wE_bm, wE_pop, wK_none, wK_some, wR_seq, wR_rng1, wR_rng2, wR_zip, oS_some, bS_bl, iS_int, Mini.get, Mini.put, Mini.clear, Mini.back, Mini.scal, sem_neg, sem_not, sem_isN, sem_notN, sem_addI, sem_sub, sem_lt, sem_le, sem_gt, sem_ge, sem_eq, sem_ne, sem_in, sem_ni, sem_ixL, sem_ixT, sem_ixS, sem_lenL, sem_lenT, sem_lenS, sem_abs, sem_max2, sem_min2, sem_tupL, sem_tupT, sem_listL, sem_listT, sem_sorted, sem_all, sem_intB, sem_intI, sem_isL, sem_mkL0, sem_mkL1, sem_mkL2, sem_mkL3, sem_mkT0, sem_mkT1, sem_mkT2, sem_mkT3, Mini.isLst, Mini.fill, Mini.refs, Mini.ref1, Mini.backR, Option.map_some, Mini.unpD, Mini.bindL, Mini.bindT, Mini.itemsD, Mini.recM, Mini.isNon, Mini.wOut, Mini.outsOf, Mini.own, List.take, true_and, and_true, if_true, Bool.false_eq_true, if_false, at3_0, at3_1, at3_2, at2_0, at2_1, ix3_0, ix3_1, ix3_2, List.length_cons, List.length_nil, List.set_cons_zero, List.set_cons_succ, Nat.zero_add, Nat.reduceAdd, sem_fdivS, sem_mulS, sem_mod]
  (rw [wSs_cons]; simp (maxSteps := 2000000) (disch := first | assumption | omega) only [wSs_nil, wS_set, wS_unp, wS_sidx, wS_smt, wS_ex, wS_ret, wS_ite, wS_pass, wE_cst, wE_glb, wE_var, wE_sv, wE_mv, wE_rf, wE_frz, wE_op, wEs_nil, wEs_cons, wE_and, wE_or, wE_ite, wE_call, wE_bm, wE_pop, wK_none, wK_some, wR_seq, wR_rng1, wR_rng2, wR_zip, oS_some, bS_bl, iS_int, Mini.get, Mini.put, Mini.clear, Mini.back, Mini.scal, sem_neg, sem_not, sem_isN, sem_notN, sem_addI, sem_sub, sem_lt, sem_le, sem_gt, sem_ge, sem_eq, sem_ne, sem_in, sem_ni, sem_ixL, sem_ixT, sem_ixS, sem_lenL, sem_lenT, sem_lenS, sem_abs, sem_max2, sem_min2, sem_tupL, sem_tupT, sem_listL, sem_listT, sem_sorted, sem_all, sem_intB, sem_intI, sem_isL, sem_mkL0, sem_mkL1, sem_mkL2, sem_mkL3, sem_mkT0, sem_mkT1, sem_mkT2, sem_mkT3, Mini.isLst, Mini.fill, Mini.refs, Mini.ref1, Mini.backR, Option.map_some, Mini.unpD, Mini.bindL, Mini.bindT, Mini.itemsD, Mini.recM, Mini.isNon, Mini.wOut, Mini.outsOf, Mini.own, List.take, true_and, and_true, if_true, Bool.false_eq_true, if_false, at3_0, at3_1, at3_2, at2_0, at2_1, ix3_0, ix3_1, ix3_2, List.length_cons, List.length_nil, List.set_cons_zero, List.set_cons_succ, Nat.zero_add, Nat.reduceAdd, sem_fdivS, sem_mulS, sem_mod])
  have h0 : atD ((chain hs st0 L).map tD) 0 = some (tD st0) := by
    cases L <;> exact atD_int (by omega) rfl
  (rw [wSs_cons]; simp (maxSteps := 2000000) (disch := first | assumption | omega) only [h0, wSs_nil, wS_set, wS_unp, wS_sidx, wS_smt, wS_ex, wS_ret, wS_ite, wS_pass, wE_cst, wE_glb, wE_var, wE_sv, wE_mv, wE_rf, wE_frz, wE_op, wEs_nil, wEs_cons, wE_and, wE_or, wE_ite, wE_call, wE_bm, wE_pop, wK_none, wK_some, wR_seq, wR_rng1, wR_rng2, wR_zip, oS_some, bS_bl, iS_int, Mini.get, Mini.put, Mini.clear, Mini.back, Mini.scal, sem_neg, sem_not, sem_isN, sem_notN, sem_addI, sem_sub, sem_lt, sem_le, sem_gt, sem_ge, sem_eq, sem_ne, sem_in, sem_ni, sem_ixL, sem_ixT, sem_ixS, sem_lenL, sem_lenT, sem_lenS, sem_abs, sem_max2, sem_min2, sem_tupL, sem_tupT, sem_listL, sem_listT, sem_sorted, sem_all, sem_intB, sem_intI, sem_isL, sem_mkL0, sem_mkL1, sem_mkL2, sem_mkL3, sem_mkT0, sem_mkT1, sem_mkT2, sem_mkT3, Mini.isLst, Mini.fill, Mini.refs, Mini.ref1, Mini.backR, Option.map_some, Mini.unpD, Mini.bindL, Mini.bindT, Mini.itemsD, Mini.recM, Mini.isNon, Mini.wOut, Mini.outsOf, Mini.own, List.take, true_and, and_true, if_true, Bool.false_eq_true, if_false, at3_0, at3_1, at3_2, at2_0, at2_1, ix3_0, ix3_1, ix3_2, List.length_cons, List.length_nil, List.set_cons_zero, List.set_cons_succ, Nat.zero_add, Nat.reduceAdd, sem_fdivS, sem_mulS, sem_mod])
  refine wC_mono (stands_ok (n + 3) hs st0 L h4 (by omega)) ?_
  rintro d os ⟨rfl, rfl⟩
  simp (maxSteps := 2000000) (disch := first | assumption | omega) only [wSs_nil, wS_set, wS_unp, wS_sidx, wS_smt, wS_ex, wS_ret, wS_ite, wS_pass, wE_cst, wE_glb, wE_var, wE_sv, wE_mv, wE_rf, wE_frz, wE_op, wEs_nil, wEs_cons, wE_and, wE_or, wE_ite, wE_call, wE_bm, wE_pop, wK_none, wK_some, wR_seq, wR_rng1, wR_rng2, wR_zip, oS_some, bS_bl, iS_int, Mini.get, Mini.put, Mini.clear, Mini.back, Mini.scal, sem_neg, sem_not, sem_isN, sem_notN, sem_addI, sem_sub, sem_lt, sem_le, sem_gt, sem_ge, sem_eq, sem_ne, sem_in, sem_ni, sem_ixL, sem_ixT, sem_ixS, sem_lenL, sem_lenT, sem_lenS, sem_abs, sem_max2, sem_min2, sem_tupL, sem_tupT, sem_listL, sem_listT, sem_sorted, sem_all, sem_intB, sem_intI, sem_isL, sem_mkL0, sem_mkL1, sem_mkL2, sem_mkL3, sem_mkT0, sem_mkT1, sem_mkT2, sem_mkT3, Mini.isLst, Mini.fill, Mini.refs, Mini.ref1, Mini.backR, Option.map_some, Mini.unpD, Mini.bindL, Mini.bindT, Mini.itemsD, Mini.recM, Mini.isNon, Mini.wOut, Mini.outsOf, Mini.own, List.take, true_and, and_true, if_true, Bool.false_eq_true, if_false, at3_0, at3_1, at3_2, at2_0, at2_1, ix3_0, ix3_1, ix3_2, List.length_cons, List.length_nil, List.set_cons_zero, List.set_cons_succ, Nat.zero_add, Nat.reduceAdd, sem_fdivS, sem_mulS, sem_mod]
  have q1 : eqD (.lst ((chain hs st0 L).map tD)) (.lst ((chain hs st0 L).map tD)) = some true := eqD_self pl_tD (by omega)
  have q2 : eqD (.lst (L.map tD)) (.lst (L.map tD)) = some true := eqD_self pl_tD (by omega)
  (rw [wSs_cons]; simp (maxSteps := 2000000) (disch := first | assumption | omega) only [q1, q2, Bool.not_true, Bool.not_false, wSs_nil, wS_set, wS_unp, wS_sidx, wS_smt, wS_ex, wS_ret, wS_ite, wS_pass, wE_cst, wE_glb, wE_var, wE_sv, wE_mv, wE_rf, wE_frz, wE_op, wEs_nil, wEs_cons, wE_and, wE_or, wE_ite, wE_call, wE_bm, wE_pop, wK_none, wK_some, wR_seq, wR_rng1, wR_rng2, wR_zip, oS_some, bS_bl, iS_int, Mini.get, Mini.put, Mini.clear, Mini.back, Mini.scal, sem_neg, sem_not, sem_isN, sem_notN, sem_addI, sem_sub, sem_lt, sem_le, sem_gt, sem_ge, sem_eq, sem_ne, sem_in, sem_ni, sem_ixL, sem_ixT, sem_ixS, sem_lenL, sem_lenT, sem_lenS, sem_abs, sem_max2, sem_min2, sem_tupL, sem_tupT, sem_listL, sem_listT, sem_sorted, sem_all, sem_intB, sem_intI, sem_isL, sem_mkL0, sem_mkL1, sem_mkL2, sem_mkL3, sem_mkT0, sem_mkT1, sem_mkT2, sem_mkT3, Mini.isLst, Mini.fill, Mini.refs, Mini.ref1, Mini.backR, Option.map_some, Mini.unpD, Mini.bindL, Mini.bindT, Mini.itemsD, Mini.recM, Mini.isNon, Mini.wOut, Mini.outsOf, Mini.own, List.take, true_and, and_true, if_true, Bool.false_eq_true, if_false, at3_0, at3_1, at3_2, at2_0, at2_1, ix3_0, ix3_1, ix3_2, List.length_cons, List.length_nil, List.set_cons_zero, List.set_cons_succ, Nat.zero_add, Nat.reduceAdd, sem_fdivS, sem_mulS, sem_mod])
  try rw [wSs_nil]
  have m1 : mopD .append ((chain hs st0 L).map tD) [.tup (hs.map .int)] = some ((chain hs st0 L).map tD ++ [.tup (hs.map .int)]) := mop_app (by rw [List.length_map, chain_len, limE]; omega)
  have m2 : mopD .append (L.map tD) [.tup (hs.map .int)] = some (L.map tD ++ [.tup (hs.map .int)]) := mop_app (by rw [List.length_map, limE]; omega)
  have m3 : L2.ixN ((chain hs st0 L).map tD ++ [D.tup (hs.map .int)]).length 0 = some 0 := by
    rw [ixN_int (by omega) (by rw [List.length_append, List.length_singleton]; omega)]
    rfl
  (rw [wSs_cons]; simp (maxSteps := 2000000) (disch := first | assumption | omega) only [m1, wSs_nil, wS_set, wS_unp, wS_sidx, wS_smt, wS_ex, wS_ret, wS_ite, wS_pass, wE_cst, wE_glb, wE_var, wE_sv, wE_mv, wE_rf, wE_frz, wE_op, wEs_nil, wEs_cons, wE_and, wE_or, wE_ite, wE_call, wE_bm, wE_pop, wK_none, wK_some, wR_seq, wR_rng1, wR_rng2, wR_zip, oS_some, bS_bl, iS_int, Mini.get, Mini.put, Mini.clear, Mini.back, Mini.scal, sem_neg, sem_not, sem_isN, sem_notN, sem_addI, sem_sub, sem_lt, sem_le, sem_gt, sem_ge, sem_eq, sem_ne, sem_in, sem_ni, sem_ixL, sem_ixT, sem_ixS, sem_lenL, sem_lenT, sem_lenS, sem_abs, sem_max2, sem_min2, sem_tupL, sem_tupT, sem_listL, sem_listT, sem_sorted, sem_all, sem_intB, sem_intI, sem_isL, sem_mkL0, sem_mkL1, sem_mkL2, sem_mkL3, sem_mkT0, sem_mkT1, sem_mkT2, sem_mkT3, Mini.isLst, Mini.fill, Mini.refs, Mini.ref1, Mini.backR, Option.map_some, Mini.unpD, Mini.bindL, Mini.bindT, Mini.itemsD, Mini.recM, Mini.isNon, Mini.wOut, Mini.outsOf, Mini.own, List.take, true_and, and_true, if_true, Bool.false_eq_true, if_false, at3_0, at3_1, at3_2, at2_0, at2_1, ix3_0, ix3_1, ix3_2, List.length_cons, List.length_nil, List.set_cons_zero, List.set_cons_succ, Nat.zero_add, Nat.reduceAdd, sem_fdivS, sem_mulS, sem_mod])
  (rw [wSs_cons]; simp (maxSteps := 2000000) (disch := first | assumption | omega) only [m3, wSs_nil, wS_set, wS_unp, wS_sidx, wS_smt, wS_ex, wS_ret, wS_ite, wS_pass, wE_cst, wE_glb, wE_var, wE_sv, wE_mv, wE_rf, wE_frz, wE_op, wEs_nil, wEs_cons, wE_and, wE_or, wE_ite, wE_call, wE_bm, wE_pop, wK_none, wK_some, wR_seq, wR_rng1, wR_rng2, wR_zip, oS_some, bS_bl, iS_int, Mini.get, Mini.put, Mini.clear, Mini.back, Mini.scal, sem_neg, sem_not, sem_isN, sem_notN, sem_addI, sem_sub, sem_lt, sem_le, sem_gt, sem_ge, sem_eq, sem_ne, sem_in, sem_ni, sem_ixL, sem_ixT, sem_ixS, sem_lenL, sem_lenT, sem_lenS, sem_abs, sem_max2, sem_min2, sem_tupL, sem_tupT, sem_listL, sem_listT, sem_sorted, sem_all, sem_intB, sem_intI, sem_isL, sem_mkL0, sem_mkL1, sem_mkL2, sem_mkL3, sem_mkT0, sem_mkT1, sem_mkT2, sem_mkT3, Mini.isLst, Mini.fill, Mini.refs, Mini.ref1, Mini.backR, Option.map_some, Mini.unpD, Mini.bindL, Mini.bindT, Mini.itemsD, Mini.recM, Mini.isNon, Mini.wOut, Mini.outsOf, Mini.own, List.take, true_and, and_true, if_true, Bool.false_eq_true, if_false, at3_0, at3_1, at3_2, at2_0, at2_1, ix3_0, ix3_1, ix3_2, List.length_cons, List.length_nil, List.set_cons_zero, List.set_cons_succ, Nat.zero_add, Nat.reduceAdd, sem_fdivS, sem_mulS, sem_mod])
  (rw [wSs_cons]; simp (maxSteps := 2000000) (disch := first | assumption | omega) only [m2, wSs_nil, wS_set, wS_unp, wS_sidx, wS_smt, wS_ex, wS_ret, wS_ite, wS_pass, wE_cst, wE_glb, wE_var, wE_sv, wE_mv, wE_rf, wE_frz, wE_op, wEs_nil, wEs_cons, wE_and, wE_or, wE_ite, wE_call, wE_bm, wE_pop, wK_none, wK_some, wR_seq, wR_rng1, wR_rng2, wR_zip, oS_some, bS_bl, iS_int, Mini.get, Mini.put, Mini.clear, Mini.back, Mini.scal, sem_neg, sem_not, sem_isN, sem_notN, sem_addI, sem_sub, sem_lt, sem_le, sem_gt, sem_ge, sem_eq, sem_ne, sem_in, sem_ni, sem_ixL, sem_ixT, sem_ixS, sem_lenL, sem_lenT, sem_lenS, sem_abs, sem_max2, sem_min2, sem_tupL, sem_tupT, sem_listL, sem_listT, sem_sorted, sem_all, sem_intB, sem_intI, sem_isL, sem_mkL0, sem_mkL1, sem_mkL2, sem_mkL3, sem_mkT0, sem_mkT1, sem_mkT2, sem_mkT3, Mini.isLst, Mini.fill, Mini.refs, Mini.ref1, Mini.backR, Option.map_some, Mini.unpD, Mini.bindL, Mini.bindT, Mini.itemsD, Mini.recM, Mini.isNon, Mini.wOut, Mini.outsOf, Mini.own, List.take, true_and, and_true, if_true, Bool.false_eq_true, if_false, at3_0, at3_1, at3_2, at2_0, at2_1, ix3_0, ix3_1, ix3_2, List.length_cons, List.length_nil, List.set_cons_zero, List.set_cons_succ, Nat.zero_add, Nat.reduceAdd, sem_fdivS, sem_mulS, sem_mod])
  (rw [wSs_cons]; simp (maxSteps := 2000000) (disch := first | assumption | omega) only [h0, wSs_nil, wS_set, wS_unp, wS_sidx, wS_smt, wS_ex, wS_ret, wS_ite, wS_pass, wE_cst, wE_glb, wE_var, wE_sv, wE_mv, wE_rf, wE_frz, wE_op, wEs_nil, wEs_cons, wE_and, wE_or, wE_ite, wE_call, wE_bm, wE_pop, wK_none, wK_some, wR_seq, wR_rng1, wR_rng2, wR_zip, oS_some, bS_bl, iS_int, Mini.get, Mini.put, Mini.clear, Mini.back, Mini.scal, sem_neg, sem_not, sem_isN, sem_notN, sem_addI, sem_sub, sem_lt, sem_le, sem_gt, sem_ge, sem_eq, sem_ne, sem_in, sem_ni, sem_ixL, sem_ixT, sem_ixS, sem_lenL, sem_lenT, sem_lenS, sem_abs, sem_max2, sem_min2, sem_tupL, sem_tupT, sem_listL, sem_listT, sem_sorted, sem_all, sem_intB, sem_intI, sem_isL, sem_mkL0, sem_mkL1, sem_mkL2, sem_mkL3, sem_mkT0, sem_mkT1, sem_mkT2, sem_mkT3, Mini.isLst, Mini.fill, Mini.refs, Mini.ref1, Mini.backR, Option.map_some, Mini.unpD, Mini.bindL, Mini.bindT, Mini.itemsD, Mini.recM, Mini.isNon, Mini.wOut, Mini.outsOf, Mini.own, List.take, true_and, and_true, if_true, Bool.false_eq_true, if_false, at3_0, at3_1, at3_2, at2_0, at2_1, ix3_0, ix3_1, ix3_2, List.length_cons, List.length_nil, List.set_cons_zero, List.set_cons_succ, Nat.zero_add, Nat.reduceAdd, sem_fdivS, sem_mulS, sem_mod])
  refine wC_mono (stands_ok (n + 3) hs st0 L h4 (by omega)) ?_
  rintro d os ⟨rfl, rfl⟩
  simp (maxSteps := 2000000) (disch := first | assumption | omega) only [q1, wSs_nil, wS_set, wS_unp, wS_sidx, wS_smt, wS_ex, wS_ret, wS_ite, wS_pass, wE_cst, wE_glb, wE_var, wE_sv, wE_mv, wE_rf, wE_frz, wE_op, wEs_nil, wEs_cons, wE_and, wE_or, wE_ite, wE_call, wE_bm, wE_pop, wK_none, wK_some, wR_seq, wR_rng1, wR_rng2, wR_zip, oS_some, bS_bl, iS_int, Mini.get, Mini.put, Mini.clear, Mini.back, Mini.scal, sem_neg, sem_not, sem_isN, sem_notN, sem_addI, sem_sub, sem_lt, sem_le, sem_gt, sem_ge, sem_eq, sem_ne, sem_in, sem_ni, sem_ixL, sem_ixT, sem_ixS, sem_lenL, sem_lenT, sem_lenS, sem_abs, sem_max2, sem_min2, sem_tupL, sem_tupT, sem_listL, sem_listT, sem_sorted, sem_all, sem_intB, sem_intI, sem_isL, sem_mkL0, sem_mkL1, sem_mkL2, sem_mkL3, sem_mkT0, sem_mkT1, sem_mkT2, sem_mkT3, Mini.isLst, Mini.fill, Mini.refs, Mini.ref1, Mini.backR, Option.map_some, Mini.unpD, Mini.bindL, Mini.bindT, Mini.itemsD, Mini.recM, Mini.isNon, Mini.wOut, Mini.outsOf, Mini.own, List.take, true_and, and_true, if_true, Bool.false_eq_true, if_false, at3_0, at3_1, at3_2, at2_0, at2_1, ix3_0, ix3_1, ix3_2, List.length_cons, List.length_nil, List.set_cons_zero, List.set_cons_succ, Nat.zero_add, Nat.reduceAdd, sem_fdivS, sem_mulS, sem_mod]
  first
    | exact ⟨_, rfl⟩
    | exact ⟨rfl, _, rfl⟩
theorem boolsD_true : ∀ {n : Nat}, boolsD (List.replicate n (.bl true)) = some (List.replicate n true)
  | 0 => rfl
  | n + 1 => by
    rw [List.replicate_succ]
    show (boolsD (List.replicate n (.bl true))).map _ = _
    rw [boolsD_true]
    rfl
theorem law_ok (n : Nat) (ns : List Int) (h : ns.length ≤ 63) : wC (callF fds (n + 7) 19 [.scr ns]) fun d os => d = .bl true := by
  refine wC_call (fd := f19) rfl rfl ?_
  show wSs (callF fds (n + 6)) f19.body [some (.scr ns), none] _ _
  simp only [f19]
  rw [wSs_cons]
  simp (maxSteps := 2000000) (disch := first | assumption | omega) only [wSs_nil, wS_set, wS_unp, wS_sidx, wS_smt, wS_ex, wS_ret, wS_ite, wS_pass, wE_cst, wE_glb, wE_var, wE_sv, wE_mv, wE_rf, wE_frz, wE_op, wEs_nil, wEs_cons, wE_and, wE_or, wE_ite, wE_call, wE_bm, wE_pop, wK_none, wK_some, wR_seq, wR_rng1, wR_rng2, wR_zip, oS_some, bS_bl, iS_int, Mini.get, Mini.put, Mini.clear, Mini.back, Mini.scal, sem_neg, sem_not, sem_isN, sem_notN, sem_addI, sem_sub, sem_lt, sem_le, sem_gt, sem_ge, sem_eq, sem_ne, sem_in, sem_ni, sem_ixL, sem_ixT, sem_ixS, sem_lenL, sem_lenT, sem_lenS, sem_abs, sem_max2, sem_min2, sem_tupL, sem_tupT, sem_listL, sem_listT, sem_sorted, sem_all, sem_intB, sem_intI, sem_isL, sem_mkL0, sem_mkL1, sem_mkL2, sem_mkL3, sem_mkT0, sem_mkT1, sem_mkT2, sem_mkT3, Mini.isLst, Mini.fill, Mini.refs, Mini.ref1, Mini.backR, Option.map_some, Mini.unpD, Mini.bindL, Mini.bindT, Mini.itemsD, Mini.recM, Mini.isNon, Mini.wOut, Mini.outsOf, Mini.own, List.take, true_and, and_true, if_true, Bool.false_eq_true, if_false, at3_0, at3_1, at3_2, at2_0, at2_1, ix3_0, ix3_1, ix3_2, List.length_cons, List.length_nil, List.set_cons_zero, List.set_cons_succ, Nat.zero_add, Nat.reduceAdd, sem_fdivS, sem_mulS, sem_mod]
  refine wE_comp ?_
  simp (maxSteps := 2000000) (disch := first | assumption | omega) only [wSs_nil, wS_set, wS_unp, wS_sidx, wS_smt, wS_ex, wS_ret, wS_ite, wS_pass, wE_cst, wE_glb, wE_var, wE_sv, wE_mv, wE_rf, wE_frz, wE_op, wEs_nil, wEs_cons, wE_and, wE_or, wE_ite, wE_call, wE_bm, wE_pop, wK_none, wK_some, wR_seq, wR_rng1, wR_rng2, wR_zip, oS_some, bS_bl, iS_int, Mini.get, Mini.put, Mini.clear, Mini.back, Mini.scal, sem_neg, sem_not, sem_isN, sem_notN, sem_addI, sem_sub, sem_lt, sem_le, sem_gt, sem_ge, sem_eq, sem_ne, sem_in, sem_ni, sem_ixL, sem_ixT, sem_ixS, sem_lenL, sem_lenT, sem_lenS, sem_abs, sem_max2, sem_min2, sem_tupL, sem_tupT, sem_listL, sem_listT, sem_sorted, sem_all, sem_intB, sem_intI, sem_isL, sem_mkL0, sem_mkL1, sem_mkL2, sem_mkL3, sem_mkT0, sem_mkT1, sem_mkT2, sem_mkT3, Mini.isLst, Mini.fill, Mini.refs, Mini.ref1, Mini.backR, Option.map_some, Mini.unpD, Mini.bindL, Mini.bindT, Mini.itemsD, Mini.recM, Mini.isNon, Mini.wOut, Mini.outsOf, Mini.own, List.take, true_and, and_true, if_true, Bool.false_eq_true, if_false, at3_0, at3_1, at3_2, at2_0, at2_1, ix3_0, ix3_1, ix3_2, List.length_cons, List.length_nil, List.set_cons_zero, List.set_cons_succ, Nat.zero_add, Nat.reduceAdd, sem_fdivS, sem_mulS, sem_mod]
  generalize hN : (if (if (ns.length : Int) < 3 then (ns.length : Int) else 3) > 1 then (if (ns.length : Int) < 3 then (ns.length : Int) else 3) else 1) = N
  have hb : 1 ≤ N ∧ N ≤ 3 := by
    rw [← hN]
    split <;> split <;> omega
  refine ⟨by omega, ?_⟩
  refine comp_rng (fun i acc s => acc = List.replicate i (.bl true) ∧ s = [some (.scr ns), none]) ⟨rfl, rfl⟩ ?_ ?_
  · rintro i acc s hi ⟨rfl, rfl⟩
    simp (maxSteps := 2000000) (disch := first | assumption | omega) only [wSs_nil, wS_set, wS_unp, wS_sidx, wS_smt, wS_ex, wS_ret, wS_ite, wS_pass, wE_cst, wE_glb, wE_var, wE_sv, wE_mv, wE_rf, wE_frz, wE_op, wEs_nil, wEs_cons, wE_and, wE_or, wE_ite, wE_call, wE_bm, wE_pop, wK_none, wK_some, wR_seq, wR_rng1, wR_rng2, wR_zip, oS_some, bS_bl, iS_int, Mini.get, Mini.put, Mini.clear, Mini.back, Mini.scal, sem_neg, sem_not, sem_isN, sem_notN, sem_addI, sem_sub, sem_lt, sem_le, sem_gt, sem_ge, sem_eq, sem_ne, sem_in, sem_ni, sem_ixL, sem_ixT, sem_ixS, sem_lenL, sem_lenT, sem_lenS, sem_abs, sem_max2, sem_min2, sem_tupL, sem_tupT, sem_listL, sem_listT, sem_sorted, sem_all, sem_intB, sem_intI, sem_isL, sem_mkL0, sem_mkL1, sem_mkL2, sem_mkL3, sem_mkT0, sem_mkT1, sem_mkT2, sem_mkT3, Mini.isLst, Mini.fill, Mini.refs, Mini.ref1, Mini.backR, Option.map_some, Mini.unpD, Mini.bindL, Mini.bindT, Mini.itemsD, Mini.recM, Mini.isNon, Mini.wOut, Mini.outsOf, Mini.own, List.take, true_and, and_true, if_true, Bool.false_eq_true, if_false, at3_0, at3_1, at3_2, at2_0, at2_1, ix3_0, ix3_1, ix3_2, List.length_cons, List.length_nil, List.set_cons_zero, List.set_cons_succ, Nat.zero_add, Nat.reduceAdd, sem_fdivS, sem_mulS, sem_mod]
    refine wC_mono (pot_ok (n + 5) ns i (by omega)) ?_
    rintro d os ⟨a, b, c, rfl, rfl⟩
    simp (maxSteps := 2000000) (disch := first | assumption | omega) only [wSs_nil, wS_set, wS_unp, wS_sidx, wS_smt, wS_ex, wS_ret, wS_ite, wS_pass, wE_cst, wE_glb, wE_var, wE_sv, wE_mv, wE_rf, wE_frz, wE_op, wEs_nil, wEs_cons, wE_and, wE_or, wE_ite, wE_call, wE_bm, wE_pop, wK_none, wK_some, wR_seq, wR_rng1, wR_rng2, wR_zip, oS_some, bS_bl, iS_int, Mini.get, Mini.put, Mini.clear, Mini.back, Mini.scal, sem_neg, sem_not, sem_isN, sem_notN, sem_addI, sem_sub, sem_lt, sem_le, sem_gt, sem_ge, sem_eq, sem_ne, sem_in, sem_ni, sem_ixL, sem_ixT, sem_ixS, sem_lenL, sem_lenT, sem_lenS, sem_abs, sem_max2, sem_min2, sem_tupL, sem_tupT, sem_listL, sem_listT, sem_sorted, sem_all, sem_intB, sem_intI, sem_isL, sem_mkL0, sem_mkL1, sem_mkL2, sem_mkL3, sem_mkT0, sem_mkT1, sem_mkT2, sem_mkT3, Mini.isLst, Mini.fill, Mini.refs, Mini.ref1, Mini.backR, Option.map_some, Mini.unpD, Mini.bindL, Mini.bindT, Mini.itemsD, Mini.recM, Mini.isNon, Mini.wOut, Mini.outsOf, Mini.own, List.take, true_and, and_true, if_true, Bool.false_eq_true, if_false, at3_0, at3_1, at3_2, at2_0, at2_1, ix3_0, ix3_1, ix3_2, List.length_cons, List.length_nil, List.set_cons_zero, List.set_cons_succ, Nat.zero_add, Nat.reduceAdd, sem_fdivS, sem_mulS, sem_mod]
    refine wC_mono (right_ok n a b c) ?_
    rintro d os ⟨rfl, x, rfl⟩
    try simp (maxSteps := 2000000) (disch := first | assumption | omega) only [wSs_nil, wS_set, wS_unp, wS_sidx, wS_smt, wS_ex, wS_ret, wS_ite, wS_pass, wE_cst, wE_glb, wE_var, wE_sv, wE_mv, wE_rf, wE_frz, wE_op, wEs_nil, wEs_cons, wE_and, wE_or, wE_ite, wE_call, wE_bm, wE_pop, wK_none, wK_some, wR_seq, wR_rng1, wR_rng2, wR_zip, oS_some, bS_bl, iS_int, Mini.get, Mini.put, Mini.clear, Mini.back, Mini.scal, sem_neg, sem_not, sem_isN, sem_notN, sem_addI, sem_sub, sem_lt, sem_le, sem_gt, sem_ge, sem_eq, sem_ne, sem_in, sem_ni, sem_ixL, sem_ixT, sem_ixS, sem_lenL, sem_lenT, sem_lenS, sem_abs, sem_max2, sem_min2, sem_tupL, sem_tupT, sem_listL, sem_listT, sem_sorted, sem_all, sem_intB, sem_intI, sem_isL, sem_mkL0, sem_mkL1, sem_mkL2, sem_mkL3, sem_mkT0, sem_mkT1, sem_mkT2, sem_mkT3, Mini.isLst, Mini.fill, Mini.refs, Mini.ref1, Mini.backR, Option.map_some, Mini.unpD, Mini.bindL, Mini.bindT, Mini.itemsD, Mini.recM, Mini.isNon, Mini.wOut, Mini.outsOf, Mini.own, List.take, true_and, and_true, if_true, Bool.false_eq_true, if_false, at3_0, at3_1, at3_2, at2_0, at2_1, ix3_0, ix3_1, ix3_2, List.length_cons, List.length_nil, List.set_cons_zero, List.set_cons_succ, Nat.zero_add, Nat.reduceAdd, sem_fdivS, sem_mulS, sem_mod]
    rw [List.replicate_succ']
    try exact ⟨rfl, rfl⟩
  · rintro r s ⟨rfl, rfl⟩
    refine ⟨by rw [List.length_replicate, limE]; omega, ?_⟩
    simp (maxSteps := 2000000) (disch := first | assumption | omega) only [boolsD_true, wSs_nil, wS_set, wS_unp, wS_sidx, wS_smt, wS_ex, wS_ret, wS_ite, wS_pass, wE_cst, wE_glb, wE_var, wE_sv, wE_mv, wE_rf, wE_frz, wE_op, wEs_nil, wEs_cons, wE_and, wE_or, wE_ite, wE_call, wE_bm, wE_pop, wK_none, wK_some, wR_seq, wR_rng1, wR_rng2, wR_zip, oS_some, bS_bl, iS_int, Mini.get, Mini.put, Mini.clear, Mini.back, Mini.scal, sem_neg, sem_not, sem_isN, sem_notN, sem_addI, sem_sub, sem_lt, sem_le, sem_gt, sem_ge, sem_eq, sem_ne, sem_in, sem_ni, sem_ixL, sem_ixT, sem_ixS, sem_lenL, sem_lenT, sem_lenS, sem_abs, sem_max2, sem_min2, sem_tupL, sem_tupT, sem_listL, sem_listT, sem_sorted, sem_all, sem_intB, sem_intI, sem_isL, sem_mkL0, sem_mkL1, sem_mkL2, sem_mkL3, sem_mkT0, sem_mkT1, sem_mkT2, sem_mkT3, Mini.isLst, Mini.fill, Mini.refs, Mini.ref1, Mini.backR, Option.map_some, Mini.unpD, Mini.bindL, Mini.bindT, Mini.itemsD, Mini.recM, Mini.isNon, Mini.wOut, Mini.outsOf, Mini.own, List.take, true_and, and_true, if_true, Bool.false_eq_true, if_false, at3_0, at3_1, at3_2, at2_0, at2_1, ix3_0, ix3_1, ix3_2, List.length_cons, List.length_nil, List.set_cons_zero, List.set_cons_succ, Nat.zero_add, Nat.reduceAdd, sem_fdivS, sem_mulS, sem_mod]
    try simp
theorem pure (ns : List Int) (h : ns.length ≤ 63) : ∃ os, callF T.fds 12 19 [.scr ns] = .ok (.bl true) os := by
  have q := law_ok 5 ns h
  rw [wC_def] at q
  show ∃ os, callF fds 12 19 [.scr ns] = .ok (.bl true) os
  cases e : callF fds 12 19 [.scr ns] with
  | ok d os =>
    rw [e] at q
    have q : d = .bl true := q
    exact ⟨os, by rw [q]⟩
  | exc c os => rw [e] at q; exact q.elim
  | bad => rw [e] at q; exact q.elim
end Lk51

namespace Lk51
open PySem PySem.Spec PyProof.Rows L2 Mini
abbrev R : PySem.W.OpenRow := PySem.W.OpenLaw.row PySem.Challenge.rw_neverwait_k51_stands_of_a_log
abbrev hk : PySem.W.Hook := He.hookD 5 fa fn
def ob (s : PySem.W.SharedT) : He.AlD := He.obsDG 5 fa fn (HandSHeadRun.getT s)
theorem ob_eq (s : PySem.W.SharedT) : ob s = hk.obs s.abs := He.obsDG_eq (HandSHeadRun.getT_eq s)
theorem run (w : World) : HandSHeadRun.RunEq R (PySem.W.view R.prog [21]) hk ob 100000 names w := by
  intro os
  kernel_rfl
section
variable {K : PySem.W.Frag} {h : Heap} {mg : Str → Option Value}
theorem fn0 (c : He.SaysD fa fn K) : ∃ f : PySem.FuncData, FunD K d0.name d0.qual d0.params d0.body d0.scope (d0.dvs K) (d0.kws K) (He.fAd K d0.at_) f ∧ Binds K f (f0.N.take f0.np) [] := by
  obtain ⟨f, F⟩ := c.def_ 0 (d := d0) rfl
  have F' : FunD K d0.name d0.qual d0.params d0.body d0.scope [] [] (He.fAd K d0.at_) f := F
  exact ⟨f, F, F'.bindsN fun _ _ _ _ _ _ us hl => match us, hl with | [_, _, _], _ => rfl⟩
theorem fn1 (c : He.SaysD fa fn K) : ∃ f : PySem.FuncData, FunD K d1.name d1.qual d1.params d1.body d1.scope (d1.dvs K) (d1.kws K) (He.fAd K d1.at_) f ∧ Binds K f (f1.N.take f1.np) [] := by
  obtain ⟨f, F⟩ := c.def_ 1 (d := d1) rfl
  have F' : FunD K d1.name d1.qual d1.params d1.body d1.scope [] [] (He.fAd K d1.at_) f := F
  exact ⟨f, F, F'.bindsN fun _ _ _ _ _ _ us hl => match us, hl with | [_, _, _], _ => rfl⟩
theorem fn2 (c : He.SaysD fa fn K) : ∃ f : PySem.FuncData, FunD K d2.name d2.qual d2.params d2.body d2.scope (d2.dvs K) (d2.kws K) (He.fAd K d2.at_) f ∧ Binds K f (f2.N.take f2.np) [] := by
  obtain ⟨f, F⟩ := c.def_ 2 (d := d2) rfl
  have F' : FunD K d2.name d2.qual d2.params d2.body d2.scope [] [] (He.fAd K d2.at_) f := F
  exact ⟨f, F, F'.bindsN fun _ _ _ _ _ _ us hl => match us, hl with | [_, _], _ => rfl⟩
theorem fn3 (c : He.SaysD fa fn K) : ∃ f : PySem.FuncData, FunD K d3.name d3.qual d3.params d3.body d3.scope (d3.dvs K) (d3.kws K) (He.fAd K d3.at_) f ∧ Binds K f (f3.N.take f3.np) [] := by
  obtain ⟨f, F⟩ := c.def_ 3 (d := d3) rfl
  have F' : FunD K d3.name d3.qual d3.params d3.body d3.scope [] [] (He.fAd K d3.at_) f := F
  exact ⟨f, F, F'.bindsN fun _ _ _ _ _ _ us hl => match us, hl with | [_, _], _ => rfl⟩
theorem fn4 (c : He.SaysD fa fn K) : ∃ f : PySem.FuncData, FunD K d4.name d4.qual d4.params d4.body d4.scope (d4.dvs K) (d4.kws K) (He.fAd K d4.at_) f ∧ Binds K f (f4.N.take f4.np) [] := by
  obtain ⟨f, F⟩ := c.def_ 4 (d := d4) rfl
  have F' : FunD K d4.name d4.qual d4.params d4.body d4.scope [] [] (He.fAd K d4.at_) f := F
  exact ⟨f, F, F'.bindsN fun _ _ _ _ _ _ us hl => match us, hl with | [_], _ => rfl⟩
theorem fn5 (c : He.SaysD fa fn K) : ∃ f : PySem.FuncData, FunD K d5.name d5.qual d5.params d5.body d5.scope (d5.dvs K) (d5.kws K) (He.fAd K d5.at_) f ∧ Binds K f (f5.N.take f5.np) [] := by
  obtain ⟨f, F⟩ := c.def_ 5 (d := d5) rfl
  have F' : FunD K d5.name d5.qual d5.params d5.body d5.scope [] [] (He.fAd K d5.at_) f := F
  exact ⟨f, F, F'.bindsN fun _ _ _ _ _ _ us hl => match us, hl with | [_], _ => rfl⟩
theorem fn6 (c : He.SaysD fa fn K) : ∃ f : PySem.FuncData, FunD K d6.name d6.qual d6.params d6.body d6.scope (d6.dvs K) (d6.kws K) (He.fAd K d6.at_) f ∧ Binds K f (f6.N.take f6.np) [] := by
  obtain ⟨f, F⟩ := c.def_ 6 (d := d6) rfl
  have F' : FunD K d6.name d6.qual d6.params d6.body d6.scope [] [] (He.fAd K d6.at_) f := F
  exact ⟨f, F, F'.bindsN fun _ _ _ _ _ _ us hl => match us, hl with | [_, _], _ => rfl⟩
theorem fn7 (c : He.SaysD fa fn K) : ∃ f : PySem.FuncData, FunD K d7.name d7.qual d7.params d7.body d7.scope (d7.dvs K) (d7.kws K) (He.fAd K d7.at_) f ∧ Binds K f (f7.N.take f7.np) [] := by
  obtain ⟨f, F⟩ := c.def_ 7 (d := d7) rfl
  have F' : FunD K d7.name d7.qual d7.params d7.body d7.scope [] [] (He.fAd K d7.at_) f := F
  exact ⟨f, F, F'.bindsN fun _ _ _ _ _ _ us hl => match us, hl with | [_, _, _], _ => rfl⟩
theorem fn8 (c : He.SaysD fa fn K) : ∃ f : PySem.FuncData, FunD K d8.name d8.qual d8.params d8.body d8.scope (d8.dvs K) (d8.kws K) (He.fAd K d8.at_) f ∧ Binds K f (f8.N.take f8.np) [] := by
  obtain ⟨f, F⟩ := c.def_ 8 (d := d8) rfl
  have F' : FunD K d8.name d8.qual d8.params d8.body d8.scope [] [] (He.fAd K d8.at_) f := F
  exact ⟨f, F, F'.bindsN fun _ _ _ _ _ _ us hl => match us, hl with | [_, _, _], _ => rfl⟩
theorem fn9 (c : He.SaysD fa fn K) : ∃ f : PySem.FuncData, FunD K d9.name d9.qual d9.params d9.body d9.scope (d9.dvs K) (d9.kws K) (He.fAd K d9.at_) f ∧ Binds K f (f9.N.take f9.np) [] := by
  obtain ⟨f, F⟩ := c.def_ 9 (d := d9) rfl
  have F' : FunD K d9.name d9.qual d9.params d9.body d9.scope [] [] (He.fAd K d9.at_) f := F
  exact ⟨f, F, F'.bindsN fun _ _ _ _ _ _ us hl => match us, hl with | [_, _], _ => rfl⟩
theorem fn10 (c : He.SaysD fa fn K) : ∃ f : PySem.FuncData, FunD K d10.name d10.qual d10.params d10.body d10.scope (d10.dvs K) (d10.kws K) (He.fAd K d10.at_) f ∧ Binds K f (f10.N.take f10.np) [] := by
  obtain ⟨f, F⟩ := c.def_ 10 (d := d10) rfl
  have F' : FunD K d10.name d10.qual d10.params d10.body d10.scope [] [] (He.fAd K d10.at_) f := F
  exact ⟨f, F, F'.bindsN fun _ _ _ _ _ _ us hl => match us, hl with | [_], _ => rfl⟩
theorem fn11 (c : He.SaysD fa fn K) : ∃ f : PySem.FuncData, FunD K d11.name d11.qual d11.params d11.body d11.scope (d11.dvs K) (d11.kws K) (He.fAd K d11.at_) f ∧ Binds K f (f11.N.take f11.np) [] := by
  obtain ⟨f, F⟩ := c.def_ 11 (d := d11) rfl
  have F' : FunD K d11.name d11.qual d11.params d11.body d11.scope [] [] (He.fAd K d11.at_) f := F
  exact ⟨f, F, F'.bindsN fun _ _ _ _ _ _ us hl => match us, hl with | [_, _], _ => rfl⟩
theorem fn12 (c : He.SaysD fa fn K) : ∃ f : PySem.FuncData, FunD K d12.name d12.qual d12.params d12.body d12.scope (d12.dvs K) (d12.kws K) (He.fAd K d12.at_) f ∧ Binds K f (f12.N.take f12.np) [] := by
  obtain ⟨f, F⟩ := c.def_ 12 (d := d12) rfl
  have F' : FunD K d12.name d12.qual d12.params d12.body d12.scope [] [] (He.fAd K d12.at_) f := F
  exact ⟨f, F, F'.bindsN fun _ _ _ _ _ _ us hl => match us, hl with | [_, _], _ => rfl⟩
theorem fn13 (c : He.SaysD fa fn K) : ∃ f : PySem.FuncData, FunD K d13.name d13.qual d13.params d13.body d13.scope (d13.dvs K) (d13.kws K) (He.fAd K d13.at_) f ∧ Binds K f (f13.N.take f13.np) [] := by
  obtain ⟨f, F⟩ := c.def_ 13 (d := d13) rfl
  have F' : FunD K d13.name d13.qual d13.params d13.body d13.scope [] [] (He.fAd K d13.at_) f := F
  exact ⟨f, F, F'.bindsN fun _ _ _ _ _ _ us hl => match us, hl with | [_, _, _], _ => rfl⟩
theorem fn14 (c : He.SaysD fa fn K) : ∃ f : PySem.FuncData, FunD K d14.name d14.qual d14.params d14.body d14.scope (d14.dvs K) (d14.kws K) (He.fAd K d14.at_) f ∧ Binds K f (f14.N.take f14.np) [] := by
  obtain ⟨f, F⟩ := c.def_ 14 (d := d14) rfl
  have F' : FunD K d14.name d14.qual d14.params d14.body d14.scope [] [] (He.fAd K d14.at_) f := F
  exact ⟨f, F, F'.bindsN fun _ _ _ _ _ _ us hl => match us, hl with | [_, _, _, _], _ => rfl⟩
theorem fn15 (c : He.SaysD fa fn K) : ∃ f : PySem.FuncData, FunD K d15.name d15.qual d15.params d15.body d15.scope (d15.dvs K) (d15.kws K) (He.fAd K d15.at_) f ∧ Binds K f (f15.N.take f15.np) [] := by
  obtain ⟨f, F⟩ := c.def_ 15 (d := d15) rfl
  have F' : FunD K d15.name d15.qual d15.params d15.body d15.scope [] [] (He.fAd K d15.at_) f := F
  exact ⟨f, F, F'.bindsN fun _ _ _ _ _ _ us hl => match us, hl with | [_, _, _, _], _ => rfl⟩
theorem fn16 (c : He.SaysD fa fn K) : ∃ f : PySem.FuncData, FunD K d16.name d16.qual d16.params d16.body d16.scope (d16.dvs K) (d16.kws K) (He.fAd K d16.at_) f ∧ Binds K f (f16.N.take f16.np) [] := by
  obtain ⟨f, F⟩ := c.def_ 16 (d := d16) rfl
  have F' : FunD K d16.name d16.qual d16.params d16.body d16.scope [] [] (He.fAd K d16.at_) f := F
  exact ⟨f, F, F'.bindsN fun _ _ _ _ _ _ us hl => match us, hl with | [_, _, _], _ => rfl⟩
theorem fn17 (c : He.SaysD fa fn K) : ∃ f : PySem.FuncData, FunD K d17.name d17.qual d17.params d17.body d17.scope (d17.dvs K) (d17.kws K) (He.fAd K d17.at_) f ∧ Binds K f (f17.N.take f17.np) [] := by
  obtain ⟨f, F⟩ := c.def_ 17 (d := d17) rfl
  have F' : FunD K d17.name d17.qual d17.params d17.body d17.scope [] [] (He.fAd K d17.at_) f := F
  exact ⟨f, F, F'.bindsN fun _ _ _ _ _ _ us hl => match us, hl with | [_, _, _, _, _], _ => rfl⟩
theorem fn18 (c : He.SaysD fa fn K) : ∃ f : PySem.FuncData, FunD K d18.name d18.qual d18.params d18.body d18.scope (d18.dvs K) (d18.kws K) (He.fAd K d18.at_) f ∧ Binds K f (f18.N.take f18.np) [] := by
  obtain ⟨f, F⟩ := c.def_ 18 (d := d18) rfl
  have F' : FunD K d18.name d18.qual d18.params d18.body d18.scope [] [] (He.fAd K d18.at_) f := F
  exact ⟨f, F, F'.bindsN fun _ _ _ _ _ _ us hl => match us, hl with | [_], _ => rfl⟩
theorem fn19 (c : He.SaysD fa fn K) : ∃ f : PySem.FuncData, FunD K d19.name d19.qual d19.params d19.body d19.scope (d19.dvs K) (d19.kws K) (He.fAd K d19.at_) f ∧ Binds K f (f19.N.take f19.np) [] := by
  obtain ⟨f, F⟩ := c.def_ 19 (d := d19) rfl
  have F' : FunD K d19.name d19.qual d19.params d19.body d19.scope [] [] (He.fAd K d19.at_) f := F
  exact ⟨f, F, F'.bindsN fun _ _ _ _ _ _ us hl => match us, hl with | [_], _ => rfl⟩
theorem txt (X : K.In h) (G : h.Ns mainGlobals mg) (c : He.SaysD fa fn K) : TxtOk T K mg where
  len := rfl
  ok := ok
  glo := fun i fd e => match i, e with
    | 0, e => by cases e; exact He.glo_ok X G (c.fact 0 (f := .glo "stepped") rfl)
    | 1, e => by cases e; exact He.glo_ok X G (c.fact 1 (f := .glo "stands_of") rfl)
    | 2, e => by cases e; exact He.glo_ok X G (c.fact 2 (f := .glo "_law_pot") rfl)
    | 3, e => by cases e; exact He.glo_ok X G (c.fact 3 (f := .glo "_law_take") rfl)
    | 4, e => by cases e; exact He.glo_ok X G (c.fact 4 (f := .glo "_law_sides") rfl)
    | 5, e => by cases e; exact He.glo_ok X G (c.fact 5 (f := .glo "_law_box_pairs") rfl)
    | 6, e => by cases e; exact He.glo_ok X G (c.fact 6 (f := .glo "_law_tree_pairs") rfl)
    | 7, e => by cases e; exact He.glo_ok X G (c.fact 7 (f := .glo "_law_more_pairs") rfl)
    | 8, e => by cases e; exact He.glo_ok X G (c.fact 8 (f := .glo "_law_cycle") rfl)
    | 9, e => by cases e; exact He.glo_ok X G (c.fact 9 (f := .glo "_law_one_way") rfl)
    | 10, e => by cases e; exact He.glo_ok X G (c.fact 10 (f := .glo "_law_net") rfl)
    | 11, e => by cases e; exact He.glo_ok X G (c.fact 11 (f := .glo "_law_ground") rfl)
    | 12, e => by cases e; exact He.glo_ok X G (c.fact 12 (f := .glo "_law_outs") rfl)
    | 13, e => by cases e; exact He.glo_ok X G (c.fact 13 (f := .glo "_law_homes") rfl)
    | 14, e => by cases e; exact He.glo_ok X G (c.fact 14 (f := .glo "_law_begun") rfl)
    | 15, e => by cases e; exact He.glo_ok X G (c.fact 15 (f := .glo "_law_handing") rfl)
    | 16, e => by cases e; exact He.glo_ok X G (c.fact 16 (f := .glo "_law_behind") rfl)
    | 17, e => by cases e; exact He.glo_ok X G (c.fact 17 (f := .glo "_law_walked") rfl)
    | 18, e => by cases e; exact He.glo_ok X G (c.fact 18 (f := .glo "_law_right") rfl)
    | 19, e => by cases e; exact He.glo_ok X G (c.fact 19 (f := .glo "law") rfl)
    | m + 20, e => by simp [T, fds] at e
  fn := fun i fd d e e2 => match i, e, e2 with
    | 0, e, e2 => by cases e; cases e2; exact fn0 c
    | 1, e, e2 => by cases e; cases e2; exact fn1 c
    | 2, e, e2 => by cases e; cases e2; exact fn2 c
    | 3, e, e2 => by cases e; cases e2; exact fn3 c
    | 4, e, e2 => by cases e; cases e2; exact fn4 c
    | 5, e, e2 => by cases e; cases e2; exact fn5 c
    | 6, e, e2 => by cases e; cases e2; exact fn6 c
    | 7, e, e2 => by cases e; cases e2; exact fn7 c
    | 8, e, e2 => by cases e; cases e2; exact fn8 c
    | 9, e, e2 => by cases e; cases e2; exact fn9 c
    | 10, e, e2 => by cases e; cases e2; exact fn10 c
    | 11, e, e2 => by cases e; cases e2; exact fn11 c
    | 12, e, e2 => by cases e; cases e2; exact fn12 c
    | 13, e, e2 => by cases e; cases e2; exact fn13 c
    | 14, e, e2 => by cases e; cases e2; exact fn14 c
    | 15, e, e2 => by cases e; cases e2; exact fn15 c
    | 16, e, e2 => by cases e; cases e2; exact fn16 c
    | 17, e, e2 => by cases e; cases e2; exact fn17 c
    | 18, e, e2 => by cases e; cases e2; exact fn18 c
    | 19, e, e2 => by cases e; cases e2; exact fn19 c
    | m + 20, e, _ => by simp [T, fds] at e
  free := fun x e => by
    have e : x ∈ T.free := List.contains_iff_mem.mp e
    simp only [T, List.mem_cons, List.not_mem_nil, or_false] at e
    rcases e with rfl | rfl | rfl | rfl | rfl | rfl | rfl | rfl | rfl | rfl | rfl | rfl
    · exact He.free_ok X G (c.fact 20 (f := .free "abs") rfl)
    · exact He.free_ok X G (c.fact 21 (f := .free "all") rfl)
    · exact He.free_ok X G (c.fact 22 (f := .free "int") rfl)
    · exact He.free_ok X G (c.fact 23 (f := .free "isinstance") rfl)
    · exact He.free_ok X G (c.fact 24 (f := .free "len") rfl)
    · exact He.free_ok X G (c.fact 25 (f := .free "list") rfl)
    · exact He.free_ok X G (c.fact 26 (f := .free "max") rfl)
    · exact He.free_ok X G (c.fact 27 (f := .free "min") rfl)
    · exact He.free_ok X G (c.fact 28 (f := .free "range") rfl)
    · exact He.free_ok X G (c.fact 29 (f := .free "sorted") rfl)
    · exact He.free_ok X G (c.fact 30 (f := .free "tuple") rfl)
    · exact He.free_ok X G (c.fact 31 (f := .free "zip") rfl)
  cst := fun p e => by cases e
end
theorem facts {P : Program} {w : World} {K : PySem.W.Frag} {h : Heap} {mg : Str → Option Value} {f : Addr} (X : K.In h) (G : h.Ns mainGlobals mg) (hfa : mg ("law" : Str) = some (.ref f)) (c : He.SaysD fa fn K) :
    ∃ fd : FuncData, (∀ (s : Shared) (v : Value), BindsTo s fd ⟨[v], []⟩ [("_law_script", v)]) ∧ ∀ base : Heap, K.In base → base.Ns mainGlobals mg → FnOk P w K mg base (CXw P) 12 f fd ["_law_script"] (spLaw K (callF T.fds 12) 19) := by
  obtain ⟨fd, F⟩ := c.def_ 19 (d := d19) rfl
  have F' : FunD K d19.name d19.qual d19.params d19.body d19.scope [] [] (He.fAd K d19.at_) fd := F
  have e := hfa.symm.trans (He.glo_ok X G (c.fact 19 (f := .glo "law") rfl))
  cases e
  have b := FunD.bindsA (ps := ["_law_script"]) F' fun _ _ _ _ _ _ us hl => match us, hl with | [_], _ => rfl
  exact ⟨fd, fun s v => b s [v] rfl, fun base _ _ => Mini.law_ok (txt X G c) (i := 19) (fd := f19) (d := d19) rfl rfl F rfl rfl rfl⟩
end Lk51
open PySem PySem.W PySem.Calls PyProof.Rows
theorem PySem.Challenge.cw_neverwait_k51_stands_of_a_log_holds : PySem.Challenge.rw_neverwait_k51_stands_of_a_log.Holds := by
  w_on; o_law
  refine HandSHeadRun.head_any (r := OpenLaw.row PySem.Challenge.rw_neverwait_k51_stands_of_a_log) (q := view (OpenLaw.row PySem.Challenge.rw_neverwait_k51_stands_of_a_log).prog [21]) (H := Lk51.hk) (ob := Lk51.ob) (M := 100000) (loose := Lk51.names) (d := HandSHeadRun.topDef (OpenLaw.row PySem.Challenge.rw_neverwait_k51_stands_of_a_log).prog 21) (kwd := []) Lk51.ob_eq
    (by kernel_rfl) (fun s => by kernel_rfl) Lk51.run (by kernel_rfl) (by kernel_rfl) (by kernel_rfl) (by rfl) (by first | assumption | decide +kernel) (by decide +kernel) ⟨rfl, rfl, rfl, rfl, rfl, by decide +kernel⟩ ?hw ?hc
  case hw => w_witness2
  case hc =>
    refine L2.walk_ofE (l := PySem.Challenge.rw_neverwait_k51_stands_of_a_log) (n := 63) (k := 12) (x := "_law_script") (CX := Mini.CXw (PySem.Challenge.rw_neverwait_k51_stands_of_a_log).prog) rfl (by decide) (by kernel_rfl) ⟨rfl, by decide, by decide⟩ ?F (fun _ _ _ _ z => Mini.cxw_end z)
    intro w mg fa h Y G hmg0
    obtain ⟨K, KX, c⟩ := Y
    have hmg : mg ("law" : PySem.Str) = some (.ref fa) := by
      have e : (HandSHeadRun.topDef (OpenLaw.row PySem.Challenge.rw_neverwait_k51_stands_of_a_log).prog 21).name = ("law" : PySem.Str) := by kernel_rfl
      rw [← e]
      exact hmg0
    obtain ⟨fd, hb, hF⟩ := Lk51.facts (P := (PySem.Challenge.rw_neverwait_k51_stands_of_a_log).prog) (w := w) KX G hmg c
    exact ⟨K, fd, _, KX, hb, fun H a ns hl _ hS => ⟨a, ns, rfl, hS, Lk51.pure ns hl, fun _ => rfl⟩, hF⟩
