import PyProof.Rows.All
import Wide.All
import OpenK.AllK
import Wide.FinOn
import HandS.ForMost
import HandS.ForExc
import HandS.More
import HandS.Defaults
import HandS.Zip
import HandS.Style
import HandS.TupAny
import HandS.IsInst
import HandS.Wide
import HandS.HeadHook1
import HandS.WordsExc
import HandS.Deep
import KE.SortData
import KE.DataMinMax
import KE.DataEq
import KE.DataFind
import KE.DataAny
import KE.DataIsa
import KE.DatumOrd
import KE.DatumIndex
import HandS.ExcIs
import KE.OsSort
import HandS.Conv
import HandS.Sort
import HandS.Text
import HandS.TupLen
import KE.KDictDisplayH
import KE.KDictPairs
import HandS.TupSets
import HandS.Strs
import KE.GoesComp
import KE.KDictZip
import HandS.Head0
import HandS.Head1
import HandS.Head2
import HandS.HeadEnd
import HandS.HeadHook2
import PySem.Challenge.RW_cogrings_k07_whole_shifts
set_option Elab.async false
set_option linter.all false
set_option maxRecDepth 100000
set_option autoImplicit false
namespace Cg
open PySem PySem.Spec PyProof.Rows L2
noncomputable section
/-! ### 1. results, slots -/
inductive Res (α : Type) where
  | ok (a : α)
  | exc (k : Str)
  | no
def Res.bind {α β : Type} (r : Res α) (f : α → Res β) : Res β := match r with
  | .ok a => f a
  | .exc k => .exc k
  | .no => .no
@[simp] theorem bind_ok {α β : Type} (a : α) (f : α → Res β) : (Res.ok a).bind f = f a := rfl
@[simp] theorem bind_exc {α β : Type} (k : Str) (f : α → Res β) : (Res.exc k : Res α).bind f = .exc k := rfl
@[simp] theorem bind_no {α β : Type} (f : α → Res β) : (Res.no : Res α).bind f = .no := rfl
/-- nothing may leave by an exception here -/
def Res.quiet {α : Type} (r : Res α) : Res α := match r with
  | .ok a => .ok a
  | _ => .no
@[simp] theorem quiet_ok {α : Type} (a : α) : (Res.ok a).quiet = .ok a := rfl
/-- what stands in a slot: a value that is shared (never changed again); a list, a dict of the frame's own -/
inductive Sl where
  | v (d : PyData)
  | l (ds : List PyData)
  | d (t : Bool) (kvs : List (PyData × PyData))
abbrev Ev := List (Option Sl)
inductive Fl where
  | nx (e : Ev)
  | rt (d : PyData)
/-! ### 2. the small language -/
inductive Ty where | int | bool | str | list | tuple
inductive Bi where | len | abs | minL | maxL | min2 | max2 | sum | any | all | sorted | tuple | list | int | str | dict
/-- a target: one name, or a tuple of names -/
inductive Tg where
  | one (i : Nat)
  | tup (is : List Nat)
mutual
inductive C where
  | var (i : Nat)
  | bor (i : Nat)
  | int (k : Int)
  | str (x : Str)
  | bl (b : Bool)
  | non
  | glo (x : Str) (d : PyData)
  | tup (es : Cs)
  | lst (es : Cs)
  | rep (es : Cs) (k : Nat)
  | bin (op : Operator) (a b : C)
  | neg (a : C)
  | nt (a : C)
  | cmp (op : CmpOp) (a b : C)
  | chn (op op' : CmpOp) (a b c : C)
  | and (a b : C)
  | or (a b : C)
  | and1 (a : C)
  | or1 (a : C)
  | ife (c a b : C)
  | ix (a i : C)
  | slc (a : C) (lo hi : Op)
  | rev (a : C)
  | isi (t : Ty) (a : C)
  | call (k : Nat) (es : Cs)
  | blt (f : Bi) (es : Cs)
  | sset (e : C)
  | lset (e : C)
  | inr (a n : C)
  | stk
  | rgL (t : Bool) (it : It')
  | cal (ks : List Nat) (i : C) (es : Cs)
  | mth (o : C) (m : Str) (a : C)
  | lc (elt : C) (tg : Tg) (it : It') (ws : List (Str × Nat))
  | lcf (elt : C) (tg : Tg) (it : It') (cond : C) (ws : List (Str × Nat))
  | lc2 (elt : C) (tg : Tg) (it : It') (tg' : Tg) (it' : It') (ws : List (Str × Nat)) (ws' : List Nat)
inductive Cs where
  | nil
  | cons (c : C) (cs : Cs)
inductive Op where
  | none
  | some (c : C)
/-- what a for walks -/
inductive It' where
  | val (e : C)
  | rng1 (a : C)
  | rng2 (a b : C)
  | zip (a b : C)
  | enu (a : C)
  | zip1 (a b : C)
end
/-- an except suite: the flags' index, the flag itself, None or a text -/
inductive Hd where
  | flg (i : Nat) (g1 g2 g3 : List Str) (tag : Option Str)
  | one (g : List Str)
  | isR (g : List Str) (k : Str)
  | noR (g : List Str) (k t : Str)
def hdIx (g : List Str) (k : Str) : Res PyData := match g.findIdx? (fun x => decide (x = k)) with
  | some j => .ok (.int j)
  | none => .no
def hdEv (h : Hd) (k : Str) : Res PyData := match h with
  | .flg _ g1 g2 g3 none => hdIx (g1 ++ g2 ++ g3) k
  | .flg _ g1 g2 g3 (some t) => (hdIx (g1 ++ g2 ++ g3) k).bind fun d => .ok (.tuple [.str t, d])
  | .one g => hdIx g k
  | .isR g k' => if g.contains k = true then .ok (.bool (decide (k' = k))) else .no
  | .noR g k' t => if g.contains k = true then .ok (if k' = k then .none else .str t) else .no
mutual
inductive S where
  | asg (i : Nat) (e : C)
  | own (i : Nat) (e : C)
  | dnew (i : Nat) (t : Bool)
  | asgT (is : List Nat) (e : C)
  | par (is : List Nat) (es : List (Bool × C))
  | dput (i : Nat) (k v : C)
  | app (i : Nat) (e : C)
  | ext (i : Nat) (e : C)
  | ret (e : C)
  | retN
  | ife (c : C) (t e : Ss)
  | for_ (tg : Tg) (it : It') (body : Ss)
  | whl (n : Nat) (c : C) (body : Ss)
  | frz (i : Nat)
  | rse (k : Str)
  | drop (e : C)
  | try_ (j : Nat) (b : Ss) (h : Hd)
  | stk
inductive Ss where
  | nil
  | cons (s : S) (ss : Ss)
end
/-! ### 3. operations on data -/
def okD (d : PyData) : Bool := d.plain && decide (d.depth ≤ 60)
/-- (the decision is closed to the kernel's unfolding: the bounds are large) -/
def smallI (a : Int) : Bool := @decide (-(2 ^ 64) < a ∧ a < 2 ^ 64) (Classical.propDecidable _)
/-- keys: ints, texts; tuples of them -/
def isKey : PyData → Bool
  | .int _ => true
  | .str _ => true
  | _ => false
def isKeyT : PyData → Bool
  | .tuple ks => ks.all isKey
  | _ => false
/-- the keys of one form -/
def keysOk (kvs : List (PyData × PyData)) (k : PyData) : Bool := !kvs.isEmpty && ((kvs.all (fun p => isKey p.1) && isKey k) || (kvs.all (fun p => isKeyT p.1) && isKeyT k))
def kvGet (kvs : List (PyData × PyData)) (k : PyData) : Option PyData := (kvs.find? fun p => PyData.eqv p.1 k).map (·.2)
def kvPut (kvs : List (PyData × PyData)) (k v : PyData) : List (PyData × PyData) :=
  if (kvs.any fun p => PyData.eqv p.1 k) = true then kvs.map (fun p => if PyData.eqv p.1 k = true then (p.1, v) else p) else kvs ++ [(k, v)]
def dBin (op : Operator) (x y : PyData) : Res PyData := match op, x, y with
  | .Add, .int a, .int b => .ok (.int (a + b))
  | .Sub, .int a, .int b => .ok (.int (a - b))
  | .Mult, .int a, .int b => if (smallI a || smallI b) = true then .ok (.int (a * b)) else .no
  | .FloorDiv, .int a, .int b => if 0 < b ∧ b.natAbs.log2 < 9000 then .ok (.int (a / b)) else .no
  | .Mod, .int a, .int b => if 0 < b then .ok (.int (a % b)) else .no
  | .Pow, .int a, .int b => if 0 ≤ b ∧ b ≤ 1000 ∧ a.natAbs < 2 ^ 64 then .ok (.int (a ^ b.toNat)) else .no
  | .Add, .str a, .str b => if a.length + b.length ≤ sizeLine then .ok (.str (a ++ b)) else .no
  | .Add, .list a, .list b => if a.length + b.length ≤ sizeLine then .ok (.list (a ++ b)) else .no
  | .Add, .tuple a, .tuple b => if a.length + b.length ≤ sizeLine then .ok (.tuple (a ++ b)) else .no
  | _, _, _ => .no
def isNone : PyData → Bool
  | .none => true
  | _ => false
def dCmp (op : CmpOp) (x y : PyData) : Res Bool := match op, x, y with
  | .Lt, .int a, .int b => .ok (decide (a < b))
  | .LtE, .int a, .int b => .ok (decide (a ≤ b))
  | .Gt, .int a, .int b => .ok (decide (b < a))
  | .GtE, .int a, .int b => .ok (decide (b ≤ a))
  | .Lt, x, y => if okD x = true ∧ okD y = true ∧ PySem.W.alike x y = true ∧ isNone x = false then .ok (PySem.W.dataLt x y) else .no
  | .Eq, x, y => if okD x = true ∧ okD y = true then .ok (PyData.eqv x y) else .no
  | .NotEq, x, y => if okD x = true ∧ okD y = true then .ok (!PyData.eqv x y) else .no
  | .In, x, .list ys => if okD x = true ∧ PyData.plainAll ys = true then .ok (ys.any fun y => PyData.eqv y x) else .no
  | .NotIn, x, .list ys => if okD x = true ∧ PyData.plainAll ys = true then .ok (!ys.any fun y => PyData.eqv y x) else .no
  | .In, x, .tuple ys => if okD x = true ∧ PyData.plainAll ys = true then .ok (ys.any fun y => PyData.eqv y x) else .no
  | .NotIn, x, .tuple ys => if okD x = true ∧ PyData.plainAll ys = true then .ok (!ys.any fun y => PyData.eqv y x) else .no
  | .In, .str a, .str b => .ok (!(Builtin.Str.occurrences b a 0 b.length 1).isEmpty)
  | .In, x, .dict kvs => if keysOk kvs x = true then .ok (kvGet kvs x).isSome else .no
  | .NotIn, x, .dict kvs => if keysOk kvs x = true then .ok (!(kvGet kvs x).isSome) else .no
  | .Is, x, .none => .ok (isNone x)
  | .IsNot, x, .none => .ok (!isNone x)
  | .Is, .bool a, .bool b => .ok (decide (a = b))
  | .IsNot, .bool a, .bool b => .ok (!decide (a = b))
  | _, _, _ => .no
def resB (r : Res Bool) : Res PyData := r.bind fun b => .ok (.bool b)
def asB (d : PyData) : Res Bool := match d with
  | .bool b => .ok b
  | _ => .no
/-- an item: of a list, a tuple, a text -/
def dIx (x i : PyData) : Res PyData := match x, i with
  | .list xs, .int k => match atI xs k with
    | some d => .ok d
    | none => .no
  | .tuple xs, .int k => match atI xs k with
    | some d => .ok d
    | none => .no
  | .str z, .int k => if z.length ≤ sizeLine then (match atI z.cps.toList k with
    | some c => .ok (.str ⟨#[c]⟩)
    | none => .no) else .no
  | .dict kvs, k => if keysOk kvs k = true then (match kvGet kvs k with
    | some d => .ok d
    | none => .no) else .no
  | _, _ => .no
def cutD (xs : List PyData) (lo hi : Option Int) : List PyData := (xs.drop (HT.sIx xs.length 0 lo)).take (HT.sIx xs.length xs.length hi - HT.sIx xs.length 0 lo)
def dSlc (x : PyData) (lo hi : Option Int) : Res PyData := match x with
  | .list xs => .ok (.list (cutD xs lo hi))
  | .tuple xs => .ok (.tuple (cutD xs lo hi))
  | .str z => if z.length ≤ sizeLine then .ok (.str (cutS z lo hi)) else .no
  | _ => .no
def asI (d : PyData) : Res Int := match d with
  | .int i => .ok i
  | _ => .no
def dRev (x : PyData) : Res PyData := match x with
  | .list xs => .ok (.list xs.reverse)
  | _ => .no
def dLen (x : PyData) : Res PyData := match x with
  | .list xs => .ok (.int xs.length)
  | .tuple xs => .ok (.int xs.length)
  | .str z => if z.length ≤ sizeLine then .ok (.int z.length) else .no
  | .dict kvs => .ok (.int kvs.length)
  | _ => .no
def isTy (t : Ty) (d : PyData) : Bool := match t, d with
  | .int, .int _ => true
  | .int, .bool _ => true
  | .bool, .bool _ => true
  | .str, .str _ => true
  | .list, .list _ => true
  | .tuple, .tuple _ => true
  | _, _ => false
def dIsi (t : Ty) (d : PyData) : Res PyData := match d with
  | .dict _ => .no
  | d => .ok (.bool (isTy t d))
def allI : List PyData → Option (List Int)
  | [] => some []
  | .int i :: r => (allI r).map (i :: ·)
  | _ :: _ => none
def allB : List PyData → Option (List Bool)
  | [] => some []
  | .bool i :: r => (allB r).map (i :: ·)
  | _ :: _ => none
def allS : List PyData → Option (List Str)
  | [] => some []
  | .str i :: r => (allS r).map (i :: ·)
  | _ :: _ => none
/-- what may be sorted: alike data, all of one form -/
def sortableD (ds : List PyData) : Bool :=
  PyData.plainAll ds && (ds.all fun d => ds.all fun e => PySem.W.alike d e) && (ds.all fun d => decide (d.depth ≤ 30)) && ((ds.all fun d => match d with
    | .tuple (_ :: _) => true
    | _ => false) || (ds.all fun d => match d with
    | .tuple _ => false
    | .none => false
    | _ => true))
def isInt : PyData → Bool
  | .int _ => true
  | _ => false
def dSorted (ds : List PyData) : Res PyData := if sortableD ds = true ∧ ds.length ≤ sizeLine then .ok (.list (ds.mergeSort (PySem.W.dataLe false id))) else .no
def minable (ds : List PyData) : Bool := PyData.plainAll ds && (ds.all fun d => ds.all fun e => PySem.W.alike d e) && (ds.all fun d => !isNone d) && decide (PyData.depthAll ds ≤ 30)
/-- pairs whose first is an int -/
def pairsI : List PyData → Option (List (Int × PyData))
  | [] => some []
  | .tuple [.int i, d] :: r => (pairsI r).map ((i, d) :: ·)
  | _ :: _ => none
/-- pairs whose first is a tuple of ints and texts -/
def pairsT : List PyData → Option (List (PyData × PyData))
  | [] => some []
  | .tuple [k, d] :: r => if isKeyT k = true then (pairsT r).map ((k, d) :: ·) else none
  | _ :: _ => none
/-- dict(xs): ascending ints as keys; different tuples as keys -/
def dDct (ds : List PyData) : Res PyData := match pairsI ds with
  | some ps => if decide ((ps.map (·.1)).Pairwise (· < ·)) = true ∧ ps.length < 1000 then .ok (.dict (ps.map fun p => (.int p.1, p.2))) else .no
  | none => match pairsT ds with
    | some ps => if decide ((ps.map (·.1)).Pairwise (fun a b => PyData.eqv a b = false)) = true ∧ ps.length < 1000 then .ok (.dict ps) else .no
    | none => .no
def dBlt (f : Bi) (xs : List PyData) : Res PyData := match f, xs with
  | .len, [x] => dLen x
  | .abs, [.int i] => .ok (.int (if i < 0 then -i else i))
  | .minL, [.list (x :: xs)] => if minable (x :: xs) = true then .ok (PySem.W.minD x xs) else .no
  | .maxL, [.list (x :: xs)] => match allI (x :: xs) with
    | some (n :: ns) => .ok (.int (ns.foldl max n))
    | _ => .no
  | .min2, [.int i, .int j] => .ok (.int (if j < i then j else i))
  | .max2, [.int i, .int j] => .ok (.int (if j > i then j else i))
  | .sum, [.list xs] => match allI xs with
    | some ns => .ok (.int ns.sum)
    | none => .no
  | .any, [.list xs] => match allB xs with
    | some bs => .ok (.bool (bs.any id))
    | none => .no
  | .all, [.list xs] => match allB xs with
    | some bs => .ok (.bool (bs.all id))
    | none => .no
  | .sorted, [.list xs] => dSorted xs
  | .sorted, [.dict kvs] => if (kvs.all fun p => isKeyT p.1) = true ∧ kvs.length < 1000 then dSorted (kvs.map (·.1)) else if (kvs.all fun p => isInt p.1) = true ∧ kvs.length < 64 then dSorted (kvs.map (·.1)) else .no
  | .tuple, [.list xs] => .ok (.tuple xs)
  | .tuple, [.tuple xs] => .ok (.tuple xs)
  | .list, [.list xs] => .ok (.list xs)
  | .list, [.tuple xs] => .ok (.list xs)
  | .int, [.int i] => .ok (.int i)
  | .int, [.str a] => match PySem.intText? a with
    | some n => if a.length ≤ 640 then .ok (.int n) else .no
    | none => .no
  | .str, [.int i] => if i.natAbs.log2 < 1920 then .ok (.str (toString i)) else .no
  | .dict, [.list xs] => dDct xs
  | _, _ => .no
/-- the items that a walk gives -/
def itemsOf (d : PyData) : Res (List PyData) := match d with
  | .list xs => .ok xs
  | .tuple xs => .ok xs
  | .dict kvs => .ok (kvs.map (·.1))
  | .str z => .ok (z.cps.toList.map fun c => .str ⟨#[c]⟩)
  | _ => .no
def rangeD (a b : Int) : List PyData := (List.range (b - a).toNat).map fun (k : Nat) => .int (a + k)
def small62 (i : Int) : Bool := @decide (-(2 ^ 62) ≤ i ∧ i < 2 ^ 62) (Classical.propDecidable _)
def enumD (xs : List PyData) : List PyData := xs.zipIdx.map fun p => .tuple [.int p.2, p.1]
def zipD (xs ys : List PyData) : List PyData := (xs.zip ys).map fun p => .tuple [p.1, p.2]
/-! ### 4. slots -/
def getV (e : Ev) (i : Nat) : Res PyData := match e[i]? with
  | some (some (.v d)) => .ok d
  | _ => .no
/-- a look at what a slot holds, shared or own -/
def peek (e : Ev) (i : Nat) : Res PyData := match e[i]? with
  | some (some (.v d)) => .ok d
  | some (some (.l ds)) => .ok (.list ds)
  | some (some (.d _ kvs)) => .ok (.dict kvs)
  | _ => .no
def setV (e : Ev) (i : Nat) (d : PyData) : Ev := e.set i (some (.v d))
def wipeV (e : Ev) : List Nat → Ev
  | [] => e
  | v :: vs => (wipeV e vs).set v none
def bindMany : List Nat → List PyData → Ev → Res Ev
  | [], [], e => .ok e
  | i :: is, d :: ds, e => bindMany is ds (setV e i d)
  | _, _, _ => .no
def bindT (t : Tg) (d : PyData) (e : Ev) : Res Ev := match t, d with
  | .one i, d => .ok (setV e i d)
  | .tup is, .tuple ds => bindMany is ds e
  | _, _ => .no
def mapR (f : PyData → Res PyData) : List PyData → Res (List PyData)
  | [] => .ok []
  | x :: xs => (f x).bind fun y => (mapR f xs).bind fun ys => .ok (y :: ys)
def filR (c : PyData → Res Bool) (f : PyData → Res PyData) : List PyData → Res (List PyData)
  | [] => .ok []
  | x :: xs => (c x).bind fun b => if b = true then (f x).bind fun y => (filR c f xs).bind fun ys => .ok (y :: ys) else filR c f xs
/-- an exception leaves a comprehension only where the list fits -/
def lcR (n : Nat) (r : Res (List PyData)) : Res (List PyData) := match r with
  | .exc k => if n ≤ sizeLine then .exc k else .no
  | r => r
@[simp] theorem lcR_ok (n : Nat) (ys : List PyData) : lcR n (.ok ys) = .ok ys := rfl
def flatR (f : PyData → Res (List PyData)) : List PyData → Res (List PyData)
  | [] => .ok []
  | x :: xs => (f x).quiet.bind fun y => (flatR f xs).bind fun ys => .ok (y ++ ys)
def listD (ys : List PyData) : Res PyData := if ys.length ≤ sizeLine then .ok (.list ys) else .no
def tupD (ys : List PyData) : Res PyData := if ys.length ≤ sizeLine then .ok (.tuple ys) else .no
def repD (k : Nat) (xs : List PyData) : Res PyData := if xs.length * k ≤ sizeLine ∧ xs.length ≤ sizeLine ∧ k ≤ 1000000 then .ok (.list (List.replicate k xs).flatten) else .no
def forR (f : PyData → Ev → Res Fl) : List PyData → Ev → Res Fl
  | [], e => .ok (.nx e)
  | x :: xs, e => (f x e).bind fun r => match r with
    | .nx e' => forR f xs e'
    | .rt d => .ok (.rt d)
def whlR (c : Ev → Res Bool) (f : Ev → Res Fl) : Nat → Ev → Res Fl
  | 0, _ => .no
  | n + 1, e => (c e).bind fun b => if b = true then (f e).bind fun r => match r with
    | .nx e' => whlR c f n e'
    | .rt d => .ok (.rt d)
    else .ok (.nx e)
/-- a set's items sorted: ints, or tuples of ints -/
def ddup (ds : List PyData) : List PyData := ds.foldl (fun acc d => if (acc.any fun y => PyData.eqv y d) = true then acc else acc ++ [d]) []
def allT : List PyData → Option (List (List Int))
  | [] => some []
  | .tuple xs :: r => match allI xs, allT r with
    | some ns, some nss => some (ns :: nss)
    | _, _ => none
  | _ :: _ => none
/-- a set can be made of these: less than 64 ints, or tuples of two ints from 0 below 1000 -/
def setable (ds : List PyData) : Bool := decide (ds.length < 64) && ((allI ds).isSome || (match allT ds with
  | some nss => nss.all fun ns => decide (ns.length = 2) && ns.all fun n => decide (0 ≤ n) && decide (n < 1000)
  | none => false))
/-- sorted(set(xs)); len(set(xs)) -/
def dSset (x : PyData) : Res PyData := match x with
  | .list ds => if setable ds = true then dSorted (ddup ds) else .no
  | _ => .no
def dLset (x : PyData) : Res PyData := match x with
  | .list ds => if setable ds = true ∧ (allT ds).isSome = true then .ok (.int (ddup ds).length) else .no
  | _ => .no
/-- the receiver -/
def mthK (m : Str) (x : PyData) : Res Unit := match x with
  | .list _ => if m = "index" then .ok () else .no
  | .str _ => if m = "index" then .no else .ok ()
  | _ => .no
/-- methods that change nothing -/
def dMth (m : Str) (o : PyData) (xs : List PyData) : Res PyData := match o, xs with
  | .list ds, [x] => if m = "index" then (if PySem.SeqAt.shaped x = true ∧ PySem.SeqAt.shaped (.list ds) = true then (match ds.findIdx? fun y => PyData.eqv y x with
      | some j => .ok (.int j)
      | none => .no) else .no)
    else if m = "count" then (if okD x = true ∧ PyData.plainAll ds = true ∧ PyData.depthAll ds ≤ 60 then .ok (.int (ds.countP fun y => PyData.eqv y x)) else .no)
    else .no
  | .str a, [.str b] => if m = "split" ∧ (b.length == 0) = false ∧ a.length + 2 ≤ sizeLine then .ok (.list ((Txt.split a b).map .str)) else .no
  | .str a, [.list ds] => match allS ds with
    | some ys => if m = "join" ∧ (ys.map (·.length)).sum + ys.length * a.length ≤ 16777216 then .ok (.str (Txt.join a ys)) else .no
    | none => .no
  | _, _ => .no
/-! ### 5. the evaluator -/
/-- a def: its name, its parameters' number, its level, what it computes -/
structure FnE where
  name : Str
  ar : Nat
  lvl : Nat
  run : List PyData → Res PyData
abbrev Tb := Nat → FnE
mutual
def evE (Γ : Tb) : C → Ev → Res PyData
  | .var i, e => getV e i
  | .bor i, e => peek e i
  | .int k, _ => .ok (.int k)
  | .str x, _ => .ok (.str x)
  | .bl b, _ => .ok (.bool b)
  | .non, _ => .ok .none
  | .glo _ d, _ => .ok d
  | .stk, _ => .no
  | .tup es, e => (evs Γ es e).bind tupD
  | .lst es, e => (evs Γ es e).bind listD
  | .rep es k, e => (evs Γ es e).bind (repD k)
  | .bin op a b, e => (evE Γ a e).bind fun x => (evE Γ b e).bind fun y => dBin op x y
  | .neg a, e => (evE Γ a e).bind fun x => (asI x).bind fun i => .ok (.int (-i))
  | .nt a, e => (evE Γ a e).bind fun x => (asB x).bind fun b => .ok (.bool (!b))
  | .cmp op a b, e => (evE Γ a e).bind fun x => (evE Γ b e).bind fun y => resB (dCmp op x y)
  | .chn op op' a b c, e => (evE Γ a e).bind fun x => (evE Γ b e).bind fun y => (dCmp op x y).bind fun k => if k = true then (evE Γ c e).bind fun z => resB (dCmp op' y z) else .ok (.bool false)
  | .and a b, e => (evE Γ a e).bind fun x => (asB x).bind fun k => if k = true then (evE Γ b e).bind fun y => resB (asB y) else .ok (.bool false)
  | .or a b, e => (evE Γ a e).bind fun x => (asB x).bind fun k => if k = true then .ok (.bool true) else (evE Γ b e).bind fun y => resB (asB y)
  | .and1 a, e => evE Γ a e
  | .or1 a, e => evE Γ a e
  | .ife c a b, e => (evE Γ c e).bind fun x => (asB x).bind fun k => if k = true then evE Γ a e else evE Γ b e
  | .ix a i, e => (evE Γ a e).bind fun x => (evE Γ i e).bind fun y => dIx x y
  | .slc a lo hi, e => (evE Γ a e).bind fun x => (evO Γ lo e).bind fun l => (evO Γ hi e).bind fun h => dSlc x l h
  | .rev a, e => (evE Γ a e).bind dRev
  | .isi t a, e => (evE Γ a e).bind fun x => dIsi t x
  | .call k es, e => (evs Γ es e).bind fun ds => (Γ k).run ds
  | .blt f es, e => (evs Γ es e).bind fun ds => dBlt f ds
  | .sset a, e => (evE Γ a e).bind dSset
  | .lset a, e => (evE Γ a e).bind dLset
  | .inr a n, e => (evE Γ a e).bind fun x => (asI x).bind fun i => (evE Γ n e).bind fun y => (asI y).bind fun j => resB (.ok (decide (0 ≤ i ∧ i < j)))
  | .rgL t it, e => (evI Γ it e).bind fun xs => if xs.length ≤ 16777216 then .ok (if t = true then .tuple xs else .list xs) else .no
  | .cal ks i es, e => (evE Γ i e).bind fun x => (asI x).bind fun j => match atI ks j with
    | some k => (evs Γ es e).bind fun ds => (Γ k).run ds
    | none => .no
  | .mth o m a, e => (evE Γ o e).bind fun x => (mthK m x).bind fun _ => (evE Γ a e).bind fun y => dMth m x [y]
  | .lc elt tg it ws, e => (evI Γ it e).bind fun xs => (lcR xs.length (mapR (fun x => (bindT tg x (wipeV e (ws.map (·.2)))).bind fun e' => evE Γ elt e') xs)).bind listD
  | .lcf elt tg it c ws, e => (evI Γ it e).bind fun xs =>
      (lcR xs.length (filR (fun x => (bindT tg x (wipeV e (ws.map (·.2)))).bind fun e' => (evE Γ c e').bind asB) (fun x => (bindT tg x (wipeV e (ws.map (·.2)))).bind fun e' => evE Γ elt e') xs)).bind listD
  | .lc2 elt tg it tg' it' ws ws', e => (evI Γ it e).bind fun xs => (flatR (fun x => (bindT tg x (wipeV e (ws.map (·.2)))).bind fun e' => (evI Γ it' e').bind fun ys =>
      mapR (fun y => (bindT tg' y (wipeV e' ws')).bind fun e'' => evE Γ elt e'') ys) xs).bind listD
def evs (Γ : Tb) : Cs → Ev → Res (List PyData)
  | .nil, _ => .ok []
  | .cons c cs, e => (evE Γ c e).bind fun x => (evs Γ cs e).bind fun xs => .ok (x :: xs)
def evO (Γ : Tb) : Op → Ev → Res (Option Int)
  | .none, _ => .ok none
  | .some c, e => (evE Γ c e).bind fun x => (asI x).bind fun i => .ok (some i)
def evI (Γ : Tb) : It' → Ev → Res (List PyData)
  | .val c, e => (evE Γ c e).bind itemsOf
  | .rng1 a, e => (evE Γ a e).bind fun x => (asI x).bind fun j => if small62 j = true then .ok (rangeD 0 j) else .no
  | .rng2 a b, e => (evE Γ a e).bind fun x => (evE Γ b e).bind fun y => (asI x).bind fun i => (asI y).bind fun j => if small62 i = true ∧ small62 j = true then .ok (rangeD i j) else .no
  | .zip a b, e => (evE Γ a e).bind fun x => (evE Γ b e).bind fun y => match x, y with
    | .list xs, .list ys => .ok (zipD xs ys)
    | .tuple xs, .tuple ys => .ok (zipD xs ys)
    | _, _ => .no
  | .enu a, e => (evE Γ a e).bind fun x => match x with
    | .list xs => .ok (enumD xs)
    | _ => .no
  | .zip1 a b, e => (evE Γ a e).bind fun x => (evE Γ b e).bind fun y => match x, y with
    | .list xs, .list ys => .ok (zipD xs ys)
    | _, _ => .no
end
/-- a own list, a own dict -/
def ownOf (b : Bool) (d : PyData) : Res Sl := match b, d with
  | false, d => .ok (.v d)
  | true, .list ds => .ok (.l ds)
  | true, .dict [(k, v)] => if isKeyT k = true then .ok (.d true [(k, v)]) else .no
  | _, _ => .no
def evPar (Γ : Tb) : List (Bool × C) → Ev → Res (List Sl)
  | [], _ => .ok []
  | (b, c) :: r, e => (evE Γ c e).bind fun d => (ownOf b d).bind fun s => (evPar Γ r e).bind fun ss => .ok (s :: ss)
def setMany : List Nat → List Sl → Ev → Res Ev
  | [], [], e => .ok e
  | i :: is, d :: ds, e => setMany is ds (e.set i (some d))
  | _, _, _ => .no
def putD (kvs : List (PyData × PyData)) (t : Bool) (k v : PyData) (f : List (PyData × PyData) → Res Fl) : Res Fl := if kvs.length < 1000 ∧ (if t = true then isKeyT k else isKey k) = true then f (kvPut kvs k v) else .no
def extD (ds : List PyData) (d : PyData) (f : List PyData → Res Fl) : Res Fl := match d with
  | .list xs => if ds.length + xs.length ≤ sizeLine then f (ds ++ xs) else .no
  | _ => .no
def frzS (s : Option Sl) : Res Sl := match s with
  | some (.l ds) => .ok (.v (.list ds))
  | some (.d _ kvs) => .ok (.v (.dict kvs))
  | _ => .no
mutual
def evS (Γ : Tb) : S → Ev → Res Fl
  | .asg i c, e => (evE Γ c e).bind fun d => .ok (.nx (setV e i d))
  | .own i c, e => (evE Γ c e).bind fun d => match d with
    | .list ds => .ok (.nx (e.set i (some (.l ds))))
    | _ => .no
  | .dnew i t, e => .ok (.nx (e.set i (some (.d t []))))
  | .asgT is c, e => (evE Γ c e).bind fun d => (bindT (.tup is) d e).bind fun e' => .ok (.nx e')
  | .par is cs, e => (evPar Γ cs e).bind fun ss => (setMany is ss e).bind fun e' => .ok (.nx e')
  | .dput i k v, e => match e[i]? with
    | some (some (.d t kvs)) => (evE Γ v e).bind fun y => (evE Γ k e).bind fun x => putD kvs t x y (fun kvs' => .ok (.nx (e.set i (some (.d t kvs')))))
    | _ => .no
  | .app i c, e => match e[i]? with
    | some (some (.l ds)) => (evE Γ c e).bind fun d => if ds.length < sizeLine then .ok (.nx (e.set i (some (.l (ds ++ [d]))))) else .no
    | _ => .no
  | .ext i c, e => match e[i]? with
    | some (some (.l ds)) => (evE Γ c e).bind fun d => extD ds d (fun ys => .ok (.nx (e.set i (some (.l ys)))))
    | _ => .no
  | .ret c, e => (evE Γ c e).bind fun d => .ok (.rt d)
  | .retN, _ => .ok (.rt .none)
  | .ife c t f, e => (evE Γ c e).bind fun d => (asB d).bind fun b => if b = true then evSs Γ t e else evSs Γ f e
  | .for_ tg it body, e => (evI Γ it e).bind fun xs => forR (fun x e => (bindT tg x e).bind fun e' => evSs Γ body e') xs e
  | .whl n c body, e => whlR (fun e => (evE Γ c e).bind asB) (fun e => evSs Γ body e) n e
  | .frz i, e => match e[i]? with
    | some s => (frzS s).bind fun s' => .ok (.nx (e.set i (some s')))
    | none => .no
  | .rse k, _ => .exc k
  | .drop c, e => (evE Γ c e).bind fun _ => .ok (.nx e)
  | .try_ _ b h, e => match evSs Γ b e with
    | .exc k => (hdEv h k).bind fun d => .ok (.rt d)
    | r => r
  | .stk, _ => .no
def evSs (Γ : Tb) : Ss → Ev → Res Fl
  | .nil, e => .ok (.nx e)
  | .cons s ss, e => (evS Γ s e).bind fun r => match r with
    | .nx e' => evSs Γ ss e'
    | .rt d => .ok (.rt d)
end
/-- a def's body at its arguments; n slots -/
def startV (n : Nat) (ds : List PyData) : Ev := ds.map (fun d => some (.v d)) ++ List.replicate (n - ds.length) none
def runB (Γ : Tb) (n : Nat) (body : Ss) (ds : List PyData) : Res PyData := (evSs Γ body (startV n ds)).bind fun r => match r with
  | .nx _ => .ok .none
  | .rt d => .ok d
end
end Cg

namespace Cg
open PySem PySem.Spec PyProof.Rows L2
/-! ### 6. how data stand in the heap -/
/-- a list that nobody changes: locked, or of the written part -/
def FzL (K : PySem.W.Frag) (H : Hp) (a : Addr) (xs : List V) : Prop :=
  (∃ o, H a = some (.frz o (.lst xs))) ∨
    ∃ (o : Obj) (its : Array Value) (n : Nat), K.lookup a = some o ∧ o.cls = .type "list" ∧ o.dict = none ∧ o.data = .seq its n ∧ its.size ≤ sizeLine ∧ Vals xs its.toList
theorem FzL.sq {K : PySem.W.Frag} {H : Hp} {a : Addr} {xs : List V} (h : FzL K H a xs) : SqL K H a xs := by
  rcases h with ⟨o, h⟩ | h
  · exact .inl (.inr ⟨o, h⟩)
  · exact .inr h
/-- a key as data -/
def kD : Key → PyData
  | .inl i => .int i
  | .inr x => .str x
mutual
inductive Rp (K : PySem.W.Frag) (H : Hp) : V → PyData → Prop
  | non : Rp K H .non .none
  | bl (b : Bool) : Rp K H (.bl b) (.bool b)
  | int (i : Int) : Rp K H (.int i) (.int i)
  | str (x : Str) : Rp K H (.str x) (.str x)
  | lst {a : Addr} {xs : List V} {ds : List PyData} : FzL K H a xs → RpAll K H xs ds → Rp K H (.ref a) (.list ds)
  | tup {a : Addr} {xs : List V} {ds : List PyData} : H a = some (.tup xs) → RpAll K H xs ds → Rp K H (.ref a) (.tuple ds)
  | dK {a : Addr} {o : Obj} {kvs : List (Key × V)} {ds : List PyData} : H a = some (.frz o (.dK kvs)) → RpAll K H (kvs.map (·.2)) ds → Rp K H (.ref a) (.dict ((kvs.map fun p => kD p.1).zip ds))
  | dT {a : Addr} {o : Obj} {kvs : List (List Key × V)} {ds : List PyData} : H a = some (.frz o (.dT kvs)) → RpAll K H (kvs.map (·.2)) ds → Rp K H (.ref a) (.dict ((kvs.map fun p => .tuple (p.1.map kD)).zip ds))
inductive RpAll (K : PySem.W.Frag) (H : Hp) : List V → List PyData → Prop
  | nil : RpAll K H [] []
  | cons {v : V} {vs : List V} {d : PyData} {ds : List PyData} : Rp K H v d → RpAll K H vs ds → RpAll K H (v :: vs) (d :: ds)
end
/-- the things that never change -/
def Frozen : HO → Prop
  | .tup _ => True
  | .frz _ _ => True
  | _ => False
/-- what never changes stands as it was -/
def KeepF (H H' : Hp) : Prop := ∀ a o, H a = some o → Frozen o → H' a = some o
theorem KeepF.refl (H : Hp) : KeepF H H := fun _ _ h _ => h
theorem KeepF.trans {H H1 H2 : Hp} (a : KeepF H H1) (b : KeepF H1 H2) : KeepF H H2 := fun c o h f => b c o (a c o h f) f
theorem KeepF.of {H H' : Hp} (s : Same H H') : KeepF H H' := fun a o h _ => s a o h
theorem KeepF.rd {H H' : Hp} (k : KeepF H H') {a : Addr} {xs : List V} (h : Rd H a (.tup xs)) : Rd H' a (.tup xs) := by
  rcases h with h | ⟨o, h⟩
  · exact .inl (k _ _ h True.intro)
  · exact .inr ⟨o, k _ _ h True.intro⟩
theorem KeepF.sqT {K : PySem.W.Frag} {H H' : Hp} (k : KeepF H H') {a : Addr} {xs : List V} (h : SqT K H a xs) : SqT K H' a xs := by
  rcases h with h | h
  · exact .inl (k.rd h)
  · exact .inr h
theorem KeepF.fzL {K : PySem.W.Frag} {H H' : Hp} (k : KeepF H H') {a : Addr} {xs : List V} (h : FzL K H a xs) : FzL K H' a xs := by
  rcases h with ⟨o, h⟩ | h
  · exact .inl ⟨o, k _ _ h True.intro⟩
  · exact .inr h
mutual
theorem Rp.mono {K : PySem.W.Frag} {H H' : Hp} (k : KeepF H H') : ∀ {v : V} {d : PyData}, Rp K H v d → Rp K H' v d
  | _, _, .non => .non
  | _, _, .bl b => .bl b
  | _, _, .int i => .int i
  | _, _, .str x => .str x
  | _, _, .lst h r => .lst (k.fzL h) (RpAll.mono k r)
  | _, _, .tup h r => .tup (k _ _ h True.intro) (RpAll.mono k r)
  | _, _, .dK h r => .dK (k _ _ h True.intro) (RpAll.mono k r)
  | _, _, .dT h r => .dT (k _ _ h True.intro) (RpAll.mono k r)
theorem RpAll.mono {K : PySem.W.Frag} {H H' : Hp} (k : KeepF H H') : ∀ {vs : List V} {ds : List PyData}, RpAll K H vs ds → RpAll K H' vs ds
  | _, _, .nil => .nil
  | _, _, .cons h r => .cons (Rp.mono k h) (RpAll.mono k r)
end
theorem RpAll.length {K : PySem.W.Frag} {H : Hp} : ∀ {vs : List V} {ds : List PyData}, RpAll K H vs ds → vs.length = ds.length
  | _, _, .nil => rfl
  | _, _, .cons _ r => by rw [List.length_cons, List.length_cons, RpAll.length r]
theorem RpAll.append {K : PySem.W.Frag} {H : Hp} : ∀ {vs : List V} {ds : List PyData} {ws : List V} {es : List PyData}, RpAll K H vs ds → RpAll K H ws es → RpAll K H (vs ++ ws) (ds ++ es)
  | _, _, _, _, .nil, s => s
  | _, _, _, _, .cons h r, s => .cons h (RpAll.append r s)
theorem RpAll.get {K : PySem.W.Frag} {H : Hp} : ∀ {vs : List V} {ds : List PyData} {i : Nat} {v : V}, RpAll K H vs ds → vs[i]? = some v → ∃ d, ds[i]? = some d ∧ Rp K H v d
  | _, _, _, _, .nil, e => by simp at e
  | _, _, 0, _, .cons h _, e => by simp at e; subst e; exact ⟨_, rfl, h⟩
  | _, _, i + 1, _, .cons _ r, e => by
    obtain ⟨d, h1, h2⟩ := RpAll.get (i := i) r (by simpa using e)
    exact ⟨d, by simpa using h1, h2⟩
theorem RpAll.get' {K : PySem.W.Frag} {H : Hp} : ∀ {vs : List V} {ds : List PyData} {i : Nat} {d : PyData}, RpAll K H vs ds → ds[i]? = some d → ∃ v, vs[i]? = some v ∧ Rp K H v d
  | _, _, _, _, .nil, e => by simp at e
  | _, _, 0, _, .cons h _, e => by simp at e; subst e; exact ⟨_, rfl, h⟩
  | _, _, i + 1, _, .cons _ r, e => by
    obtain ⟨d, h1, h2⟩ := RpAll.get' (i := i) r (by simpa using e)
    exact ⟨d, by simpa using h1, h2⟩
theorem RpAll.take {K : PySem.W.Frag} {H : Hp} : ∀ {vs : List V} {ds : List PyData} (n : Nat), RpAll K H vs ds → RpAll K H (vs.take n) (ds.take n)
  | _, _, 0, _ => .nil
  | _, _, _ + 1, .nil => .nil
  | _, _, n + 1, .cons h r => .cons h (RpAll.take n r)
theorem RpAll.drop {K : PySem.W.Frag} {H : Hp} : ∀ {vs : List V} {ds : List PyData} (n : Nat), RpAll K H vs ds → RpAll K H (vs.drop n) (ds.drop n)
  | _, _, 0, r => r
  | _, _, _ + 1, .nil => .nil
  | _, _, n + 1, .cons _ r => RpAll.drop n r
theorem RpAll.reverse {K : PySem.W.Frag} {H : Hp} : ∀ {vs : List V} {ds : List PyData}, RpAll K H vs ds → RpAll K H vs.reverse ds.reverse
  | _, _, .nil => .nil
  | _, _, .cons h r => by
    rw [List.reverse_cons, List.reverse_cons]
    exact (RpAll.reverse r).append (.cons h .nil)
theorem RpAll.rep {K : PySem.W.Frag} {H : Hp} {vs : List V} {ds : List PyData} (r : RpAll K H vs ds) : ∀ k : Nat, RpAll K H (List.replicate k vs).flatten (List.replicate k ds).flatten
  | 0 => .nil
  | k + 1 => by
    rw [List.replicate_succ, List.replicate_succ, List.flatten_cons, List.flatten_cons]
    exact r.append (RpAll.rep r k)
theorem RpAll.ints {K : PySem.W.Frag} {H : Hp} : ∀ {vs : List V} {ds : List PyData} {ns : List Int}, RpAll K H vs ds → allI ds = some ns → vs = ns.map V.int ∧ ds = ns.map PyData.int
  | _, _, _, .nil, e => by simp [allI] at e; subst e; exact ⟨rfl, rfl⟩
  | _, _, _, .cons (d := d) h r, e => by
    cases d with
    | int i =>
      simp only [allI, Option.map_eq_some_iff] at e
      obtain ⟨ns', e1, rfl⟩ := e
      obtain ⟨h1, h2⟩ := RpAll.ints r e1
      cases h
      exact ⟨by rw [h1]; rfl, by rw [h2]; rfl⟩
    | _ => simp [allI] at e
theorem RpAll.bls {K : PySem.W.Frag} {H : Hp} : ∀ {vs : List V} {ds : List PyData} {ns : List Bool}, RpAll K H vs ds → allB ds = some ns → vs = ns.map V.bl ∧ ds = ns.map PyData.bool
  | _, _, _, .nil, e => by simp [allB] at e; subst e; exact ⟨rfl, rfl⟩
  | _, _, _, .cons (d := d) h r, e => by
    cases d with
    | bool i =>
      simp only [allB, Option.map_eq_some_iff] at e
      obtain ⟨ns', e1, rfl⟩ := e
      obtain ⟨h1, h2⟩ := RpAll.bls r e1
      cases h
      exact ⟨by rw [h1]; rfl, by rw [h2]; rfl⟩
    | _ => simp [allB] at e
theorem rpAll_ints {K : PySem.W.Frag} {H : Hp} : ∀ ns : List Int, RpAll K H (ns.map V.int) (ns.map PyData.int)
  | [] => .nil
  | n :: ns => .cons (.int n) (rpAll_ints ns)

/-- as Rp, or a list, a dict that may still change -/
inductive Rb (K : PySem.W.Frag) (H : Hp) : V → PyData → Prop
  | rp {v : V} {d : PyData} : Rp K H v d → Rb K H v d
  | lst {a : Addr} {xs : List V} {ds : List PyData} : H a = some (.lst xs) → RpAll K H xs ds → Rb K H (.ref a) (.list ds)
  | dK {a : Addr} {kvs : List (Key × V)} {ds : List PyData} : H a = some (.dK kvs) → RpAll K H (kvs.map (·.2)) ds → Rb K H (.ref a) (.dict ((kvs.map fun p => kD p.1).zip ds))
  | dT {a : Addr} {kvs : List (List Key × V)} {ds : List PyData} : H a = some (.dT kvs) → RpAll K H (kvs.map (·.2)) ds → Rb K H (.ref a) (.dict ((kvs.map fun p => .tuple (p.1.map kD)).zip ds))
theorem Rb.mono {K : PySem.W.Frag} {H H' : Hp} (k : Same H H') {v : V} {d : PyData} (h : Rb K H v d) : Rb K H' v d := by
  cases h with
  | rp h => exact .rp (h.mono (.of k))
  | lst h r => exact .lst (k _ _ h) (r.mono (.of k))
  | dK h r => exact .dK (k _ _ h) (r.mono (.of k))
  | dT h r => exact .dT (k _ _ h) (r.mono (.of k))
theorem Rb.list {K : PySem.W.Frag} {H : Hp} {v : V} {ds : List PyData} (h : Rb K H v (.list ds)) : ∃ a xs, v = .ref a ∧ SqL K H a xs ∧ RpAll K H xs ds := by
  cases h with
  | rp h => cases h with
    | lst h r => exact ⟨_, _, rfl, h.sq, r⟩
  | lst h r => exact ⟨_, _, rfl, SqL.of h, r⟩
theorem Rb.tuple {K : PySem.W.Frag} {H : Hp} {v : V} {ds : List PyData} (h : Rb K H v (.tuple ds)) : ∃ a xs, v = .ref a ∧ SqT K H a xs ∧ RpAll K H xs ds := by
  cases h with
  | rp h => cases h with
    | tup h r => exact ⟨_, _, rfl, SqT.of h, r⟩
theorem Rb.tuple' {K : PySem.W.Frag} {H : Hp} {v : V} {ds : List PyData} (h : Rb K H v (.tuple ds)) : ∃ a xs, v = .ref a ∧ H a = some (.tup xs) ∧ RpAll K H xs ds := by
  cases h with
  | rp h => cases h with
    | tup h r => exact ⟨_, _, rfl, h, r⟩
theorem Rb.int {K : PySem.W.Frag} {H : Hp} {v : V} {i : Int} (h : Rb K H v (.int i)) : v = .int i := by
  cases h with
  | rp h => cases h; rfl
theorem Rb.str {K : PySem.W.Frag} {H : Hp} {v : V} {i : Str} (h : Rb K H v (.str i)) : v = .str i := by
  cases h with
  | rp h => cases h; rfl
theorem Rb.bl {K : PySem.W.Frag} {H : Hp} {v : V} {i : Bool} (h : Rb K H v (.bool i)) : v = .bl i := by
  cases h with
  | rp h => cases h; rfl
theorem Rb.non {K : PySem.W.Frag} {H : Hp} {v : V} (h : Rb K H v .none) : v = .non := by
  cases h with
  | rp h => cases h; rfl
theorem Rb.isNon {K : PySem.W.Frag} {H : Hp} {v : V} {d : PyData} (h : Rb K H v d) : decide (v = .non) = isNone d := by
  cases h with
  | rp h => cases h <;> simp [isNone]
  | lst h r => simp [isNone]
  | dK h r => simp [isNone]
  | dT h r => simp [isNone]
/-! plain data as the library reads them -/
mutual
theorem Rp.dp {K : PySem.W.Frag} {H : Hp} : ∀ {v : V} {d : PyData}, Rp K H v d → d.plain = true → Dp K H v d
  | _, _, .non, _ => .non
  | _, _, .bl b, _ => .bl b
  | _, _, .int i, _ => .int i
  | _, _, .str x, _ => .str x
  | _, _, .lst h r, p => .lst h.sq (RpAll.dp r (by simpa [PyData.plain] using p))
  | _, _, .tup h r, p => .tup (SqT.of h) (RpAll.dp r (by simpa [PyData.plain] using p))
  | _, _, .dK h r, p => by simp [PyData.plain] at p
  | _, _, .dT h r, p => by simp [PyData.plain] at p
theorem RpAll.dp {K : PySem.W.Frag} {H : Hp} : ∀ {vs : List V} {ds : List PyData}, RpAll K H vs ds → PyData.plainAll ds = true → DpAll K H vs ds
  | _, _, .nil, _ => .nil
  | _, _, .cons h r, p => by
    simp only [PyData.plainAll, Bool.and_eq_true] at p
    exact .cons (Rp.dp h p.1) (RpAll.dp r p.2)
end
theorem Rb.dp {K : PySem.W.Frag} {H : Hp} {v : V} {d : PyData} (h : Rb K H v d) (p : d.plain = true) : Dp K H v d := by
  cases h with
  | rp h => exact h.dp p
  | lst h r => exact .lst (SqL.of h) (r.dp (by simpa [PyData.plain] using p))
  | dK h r => simp [PyData.plain] at p
  | dT h r => simp [PyData.plain] at p
/-! ### 7. the frame's slots -/
/-- what slot i holds: as σ says, so e says; the own things at addresses that the entry H0 does not know -/
def SlOk (K : PySem.W.Frag) (H0 H : Hp) (s : Option V) : Sl → Prop
  | .v d => ∃ v, s = some v ∧ Rp K H v d
  | .l ds => ∃ a xs, s = some (.ref a) ∧ H0 a = none ∧ H a = some (.lst xs) ∧ RpAll K H xs ds
  | .d false kvs => ∃ a ks ds, s = some (.ref a) ∧ H0 a = none ∧ H a = some (.dK ks) ∧ RpAll K H (ks.map (·.2)) ds ∧ kvs = (ks.map fun p => kD p.1).zip ds
  | .d true kvs => ∃ a ks ds, s = some (.ref a) ∧ H0 a = none ∧ H a = some (.dT ks) ∧ RpAll K H (ks.map (·.2)) ds ∧ kvs = (ks.map fun p => .tuple (p.1.map kD)).zip ds
def isOwn : Sl → Bool
  | .v _ => false
  | _ => true
structure StOk (K : PySem.W.Frag) (H0 : Hp) (e : Ev) (σ : L2.St) (H : Hp) : Prop where
  same : Same H0 H
  len : e.length = σ.length
  at_ : ∀ (i : Nat) (s : Sl), e[i]? = some (some s) → SlOk K H0 H ((σ[i]?).getD none) s
  apart : ∀ (i j : Nat) (s t : Sl) (a : Addr), e[i]? = some (some s) → e[j]? = some (some t) → isOwn s = true → isOwn t = true → (σ[i]?).getD none = some (.ref a) → (σ[j]?).getD none = some (.ref a) → i = j
theorem SlOk.mono {K : PySem.W.Frag} {H0 H H' : Hp} (k : Same H H') {s : Option V} {l : Sl} (h : SlOk K H0 H s l) : SlOk K H0 H' s l := by
  cases l with
  | v d => obtain ⟨v, e, r⟩ := h; exact ⟨v, e, r.mono (.of k)⟩
  | l ds => obtain ⟨a, xs, e, n, h, r⟩ := h; exact ⟨a, xs, e, n, k _ _ h, r.mono (.of k)⟩
  | d t kvs => cases t with
    | false => obtain ⟨a, ks, ds, e, n, h, r, q⟩ := h; exact ⟨a, ks, ds, e, n, k _ _ h, r.mono (.of k), q⟩
    | true => obtain ⟨a, ks, ds, e, n, h, r, q⟩ := h; exact ⟨a, ks, ds, e, n, k _ _ h, r.mono (.of k), q⟩
theorem StOk.mono {K : PySem.W.Frag} {H0 H H' : Hp} {e : Ev} {σ : L2.St} (h : StOk K H0 e σ H) (k : Same H H') : StOk K H0 e σ H' :=
  ⟨h.same.trans k, h.len, fun i s q => (h.at_ i s q).mono k, h.apart⟩
theorem StOk.getV {K : PySem.W.Frag} {H0 H : Hp} {e : Ev} {σ : L2.St} (h : StOk K H0 e σ H) {i : Nat} {d : PyData} (q : Cg.getV e i = .ok d) : ∃ v, σ[i]? = some (some v) ∧ Rp K H v d := by
  unfold Cg.getV at q
  split at q
  · rename_i d' q'
    cases q
    obtain ⟨v, e1, r⟩ := h.at_ i _ q'
    refine ⟨v, ?_, r⟩
    cases z : σ[i]? with
    | none => rw [z] at e1; cases e1
    | some o => rw [z] at e1; exact congrArg some e1
  · cases q
theorem getD_some {σ : L2.St} {i : Nat} {v : V} (h : (σ[i]?).getD none = some v) : σ[i]? = some (some v) := by
  cases z : σ[i]? with
  | none => rw [z] at h; cases h
  | some o => rw [z] at h; exact congrArg some h
theorem StOk.peek {K : PySem.W.Frag} {H0 H : Hp} {e : Ev} {σ : L2.St} (h : StOk K H0 e σ H) {i : Nat} {d : PyData} (q : Cg.peek e i = .ok d) : ∃ v, σ[i]? = some (some v) ∧ Rb K H v d := by
  unfold Cg.peek at q
  split at q
  · rename_i d' q'
    cases q
    obtain ⟨v, e1, r⟩ := h.at_ i _ q'
    exact ⟨v, getD_some e1, .rp r⟩
  · rename_i d' q'
    cases q
    obtain ⟨a, xs, e1, _, h1, r⟩ := h.at_ i _ q'
    exact ⟨_, getD_some e1, .lst h1 r⟩
  · rename_i t kvs q'
    cases q
    cases t with
    | false =>
      obtain ⟨a, ks, ds, e1, _, h1, r, rfl⟩ := h.at_ i _ q'
      exact ⟨_, getD_some e1, .dK h1 r⟩
    | true =>
      obtain ⟨a, ks, ds, e1, _, h1, r, rfl⟩ := h.at_ i _ q'
      exact ⟨_, getD_some e1, .dT h1 r⟩
  · cases q
theorem set_at {α : Type} {l : List (Option α)} {i j : Nat} {x : Option α} {s : α} (h : (l.set i x)[j]? = some (some s)) : (j = i ∧ x = some s ∧ i < l.length) ∨ (j ≠ i ∧ l[j]? = some (some s)) := by
  by_cases e : j = i
  · subst e
    by_cases hl : j < l.length
    · rw [List.getElem?_set_self hl] at h
      exact .inl ⟨rfl, Option.some.inj h, hl⟩
    · rw [List.getElem?_eq_none (by simpa using hl)] at h
      cases h
  · rw [List.getElem?_set_ne (Ne.symm e)] at h
    exact .inr ⟨e, h⟩
theorem set_got {σ : L2.St} {i j : Nat} {x : Option V} (hi : i < σ.length) : ((σ.set i x)[j]?).getD none = if j = i then x else (σ[j]?).getD none := by
  by_cases e : j = i
  · subst e
    rw [List.getElem?_set_self hi, if_pos rfl]
    rfl
  · rw [List.getElem?_set_ne (Ne.symm e), if_neg e]
/-- a shared value goes into slot i -/
theorem StOk.setV {K : PySem.W.Frag} {H0 H : Hp} {e : Ev} {σ : L2.St} (h : StOk K H0 e σ H) (i : Nat) {v : V} {d : PyData} (r : Rp K H v d) : StOk K H0 (Cg.setV e i d) (σ.set i (some v)) H := by
  refine ⟨h.same, by simp [Cg.setV, h.len], fun j s q => ?_, fun j k s t a q1 q2 o1 o2 g1 g2 => ?_⟩
  · rcases set_at q with ⟨rfl, e1, hl⟩ | ⟨hne, q'⟩
    · cases e1
      rw [set_got (by rw [← h.len]; exact hl), if_pos rfl]
      exact ⟨v, rfl, r⟩
    · have := h.at_ j s q'
      rwa [List.getElem?_set_ne (Ne.symm hne)]
  · rcases set_at q1 with ⟨rfl, e1, hl⟩ | ⟨hne, q1'⟩
    · cases e1; cases o1
    · rcases set_at q2 with ⟨rfl, e2, hl⟩ | ⟨hne2, q2'⟩
      · cases e2; cases o2
      · rw [List.getElem?_set_ne (Ne.symm hne)] at g1
        rw [List.getElem?_set_ne (Ne.symm hne2)] at g2
        exact h.apart j k s t a q1' q2' o1 o2 g1 g2
/-- an own thing at the new address a goes into slot i -/
theorem StOk.setO {K : PySem.W.Frag} {H0 H : Hp} {e : Ev} {σ : L2.St} (h : StOk K H0 e σ H) (i : Nat) {a : Addr} {s : Sl} (r : SlOk K H0 H (some (.ref a)) s) (hn : ∀ (j : Nat) (t : Sl), e[j]? = some (some t) → isOwn t = true → (σ[j]?).getD none ≠ some (.ref a)) :
    StOk K H0 (e.set i (some s)) (σ.set i (some (.ref a))) H := by
  refine ⟨h.same, by simp [h.len], fun j t q => ?_, fun j k s' t b q1 q2 o1 o2 g1 g2 => ?_⟩
  · rcases set_at q with ⟨rfl, e1, hl⟩ | ⟨hne, q'⟩
    · cases e1
      rw [set_got (by rw [← h.len]; exact hl), if_pos rfl]
      exact r
    · have := h.at_ j t q'
      rwa [List.getElem?_set_ne (Ne.symm hne)]
  · rcases set_at q1 with ⟨rfl, e1, hl⟩ | ⟨hne, q1'⟩
    · rcases set_at q2 with ⟨rfl, e2, hl2⟩ | ⟨hne2, q2'⟩
      · rfl
      · rw [set_got (by rw [← h.len]; exact hl), if_pos rfl] at g1
        rw [List.getElem?_set_ne (Ne.symm hne2)] at g2
        cases g1
        exact absurd g2 (hn k t q2' o2)
    · rcases set_at q2 with ⟨rfl, e2, hl⟩ | ⟨hne2, q2'⟩
      · rw [set_got (by rw [← h.len]; exact hl), if_pos rfl] at g2
        rw [List.getElem?_set_ne (Ne.symm hne)] at g1
        cases g2
        exact absurd g1 (hn j s' q1' o1)
      · rw [List.getElem?_set_ne (Ne.symm hne)] at g1
        rw [List.getElem?_set_ne (Ne.symm hne2)] at g2
        exact h.apart j k s' t b q1' q2' o1 o2 g1 g2
/-- a slot is forgotten -/
theorem StOk.forget {K : PySem.W.Frag} {H0 H : Hp} {e : Ev} {σ : L2.St} (h : StOk K H0 e σ H) (i : Nat) : StOk K H0 (e.set i none) (σ.set i none) H := by
  refine ⟨h.same, by simp [h.len], fun j t q => ?_, fun j k s' t b q1 q2 o1 o2 g1 g2 => ?_⟩
  · rcases set_at q with ⟨rfl, e1, hl⟩ | ⟨hne, q'⟩
    · cases e1
    · have := h.at_ j t q'
      rwa [List.getElem?_set_ne (Ne.symm hne)]
  · rcases set_at q1 with ⟨rfl, e1, hl⟩ | ⟨hne, q1'⟩
    · cases e1
    · rcases set_at q2 with ⟨rfl, e2, hl⟩ | ⟨hne2, q2'⟩
      · cases e2
      · rw [List.getElem?_set_ne (Ne.symm hne)] at g1
        rw [List.getElem?_set_ne (Ne.symm hne2)] at g2
        exact h.apart j k s' t b q1' q2' o1 o2 g1 g2
theorem StOk.wipe {K : PySem.W.Frag} {H0 H : Hp} {e : Ev} {σ : L2.St} (h : StOk K H0 e σ H) : ∀ vs : List Nat, StOk K H0 (wipeV e vs) (L2.wipe σ vs) H
  | [] => h
  | v :: vs => (StOk.wipe h vs).forget v
/-- the thing at a, own at slot i, is changed -/
theorem StOk.change {K : PySem.W.Frag} {H0 H : Hp} {e : Ev} {σ : L2.St} (h : StOk K H0 e σ H) {i : Nat} {a : Addr} {s s' : Sl} {o o' : HO} (hs : e[i]? = some (some s)) (ho : isOwn s = true) (ha : (σ[i]?).getD none = some (.ref a)) (h0 : H0 a = none) (hH : H a = some o) (hf : ¬ Frozen o)
    (r : SlOk K H0 (upd H a o') (some (.ref a)) s') : StOk K H0 (e.set i (some s')) σ (upd H a o') := by
  have kf : KeepF H (upd H a o') := fun b u q f => by
    rw [upd_ne]
    · exact q
    · rintro rfl
      rw [hH] at q
      cases q
      exact hf f
  have nb : ∀ b u, H0 b = some u → b ≠ a := fun b u q z => by rw [z, h0] at q; cases q
  refine ⟨fun b u q => by rw [upd_ne (nb b u q)]; exact h.same b u q, by simp [h.len], fun j t q => ?_, fun j k s1 t b q1 q2 o1 o2 g1 g2 => ?_⟩
  · rcases set_at q with ⟨rfl, e1, hl⟩ | ⟨hne, q'⟩
    · cases e1
      rw [ha]
      exact r
    · have hj := h.at_ j t q'
      cases t with
      | v d => obtain ⟨v, e1, r⟩ := hj; exact ⟨v, e1, r.mono kf⟩
      | l ds =>
        obtain ⟨b, xs, e1, n, h1, r⟩ := hj
        have hb : b ≠ a := fun z => hne (h.apart j i _ _ a q' hs rfl ho (by rw [e1, z]) ha)
        exact ⟨b, xs, e1, n, by rw [upd_ne hb]; exact h1, r.mono kf⟩
      | d tt kvs => cases tt with
        | false =>
          obtain ⟨b, ks, ds, e1, n, h1, r, q2⟩ := hj
          have hb : b ≠ a := fun z => hne (h.apart j i _ _ a q' hs rfl ho (by rw [e1, z]) ha)
          exact ⟨b, ks, ds, e1, n, by rw [upd_ne hb]; exact h1, r.mono kf, q2⟩
        | true =>
          obtain ⟨b, ks, ds, e1, n, h1, r, q2⟩ := hj
          have hb : b ≠ a := fun z => hne (h.apart j i _ _ a q' hs rfl ho (by rw [e1, z]) ha)
          exact ⟨b, ks, ds, e1, n, by rw [upd_ne hb]; exact h1, r.mono kf, q2⟩
  · have old : ∀ (m : Nat) (u : Sl), (e.set i (some s'))[m]? = some (some u) → isOwn u = true → ∃ u', e[m]? = some (some u') ∧ isOwn u' = true := fun m u q ou => by
      rcases set_at q with ⟨rfl, _, _⟩ | ⟨_, q'⟩
      · exact ⟨s, hs, ho⟩
      · exact ⟨u, q', ou⟩
    obtain ⟨u1, q1', o1'⟩ := old j s1 q1 o1
    obtain ⟨u2, q2', o2'⟩ := old k t q2 o2
    exact h.apart j k u1 u2 b q1' q2' o1' o2' g1 g2
theorem StOk.own_ne {K : PySem.W.Frag} {H0 H : Hp} {e : Ev} {σ : L2.St} (h : StOk K H0 e σ H) {a : Addr} (hn : H a = none) : ∀ (j : Nat) (t : Sl), e[j]? = some (some t) → isOwn t = true → (σ[j]?).getD none ≠ some (.ref a) := fun j t q o g => by
  have hj := h.at_ j t q
  cases t with
  | v d => cases o
  | l ds => obtain ⟨b, xs, e1, n, h1, r⟩ := hj; rw [g] at e1; cases e1; rw [hn] at h1; cases h1
  | d tt kvs => cases tt with
    | false => obtain ⟨b, ks, ds, e1, n, h1, r, q2⟩ := hj; rw [g] at e1; cases e1; rw [hn] at h1; cases h1
    | true => obtain ⟨b, ks, ds, e1, n, h1, r, q2⟩ := hj; rw [g] at e1; cases e1; rw [hn] at h1; cases h1
end Cg

set_option maxHeartbeats 1000000
namespace Cg
open PySem PySem.Spec PyProof.Rows L2
/-! ### 8a. dicts as data -/
def kTD (k : List Key) : PyData := .tuple (k.map kD)
theorem eqv_kD (a b : Key) : PyData.eqv (kD a) (kD b) = decide (a = b) := by
  cases a <;> cases b <;> simp [kD, PyData.eqv] <;> (rw [Bool.eq_iff_iff]; simp)
theorem eqvAll_kD : ∀ a b : List Key, PyData.eqvAll (a.map kD) (b.map kD) = decide (a = b)
  | [], [] => by simp [PyData.eqvAll]
  | [], b :: bs => by simp [PyData.eqvAll]
  | a :: as, [] => by simp [PyData.eqvAll]
  | a :: as, b :: bs => by
    rw [List.map_cons, List.map_cons]
    unfold PyData.eqvAll
    rw [eqv_kD, eqvAll_kD as bs]
    by_cases h : a = b <;> simp [h]
theorem eqv_kTD (a b : List Key) : PyData.eqv (kTD a) (kTD b) = decide (a = b) := by
  unfold kTD PyData.eqv
  exact eqvAll_kD a b
theorem isKey_of {d : PyData} (h : isKey d = true) : ∃ k, d = kD k := by
  cases d with
  | int i => exact ⟨.inl i, rfl⟩
  | str x => exact ⟨.inr x, rfl⟩
  | _ => cases h
theorem isKeys_all : ∀ {ds : List PyData}, ds.all isKey = true → ∃ ks : List Key, ds = ks.map kD
  | [], _ => ⟨[], rfl⟩
  | d :: ds, h => by
    rw [List.all_cons, Bool.and_eq_true] at h
    obtain ⟨k, rfl⟩ := isKey_of h.1
    obtain ⟨ks, rfl⟩ := isKeys_all h.2
    exact ⟨k :: ks, rfl⟩
theorem isKeyT_of {d : PyData} (h : isKeyT d = true) : ∃ k, d = kTD k := by
  cases d with
  | tuple ds =>
    obtain ⟨ks, rfl⟩ := isKeys_all (show ds.all isKey = true from h)
    exact ⟨ks, rfl⟩
  | _ => cases h
section
variable {K : PySem.W.Frag} {H : Hp}
theorem rp_kD {v : V} {k : Key} (h : Rp K H v (kD k)) : v = kV k := by
  cases k with
  | inl i => exact (Rb.rp (show Rp K H v (.int i) from h)).int
  | inr x => exact (Rb.rp (show Rp K H v (.str x) from h)).str
theorem rpAll_kD : ∀ {vs : List V} {k : List Key}, RpAll K H vs (k.map kD) → vs = k.map kV
  | _, [], h => by cases h; rfl
  | _, k :: ks, h => by
    cases h with
    | cons h r => rw [rp_kD h, rpAll_kD r]; rfl
theorem rb_kD {v : V} {k : Key} (h : Rb K H v (kD k)) : v = kV k := by
  cases k with
  | inl i => exact (show Rb K H v (.int i) from h).int
  | inr x => exact (show Rb K H v (.str x) from h).str
theorem rb_kTD {v : V} {k : List Key} (h : Rb K H v (kTD k)) : ∃ b, v = .ref b ∧ H b = some (.tup (k.map kV)) := by
  obtain ⟨a, xs, e, h1, r⟩ := (show Rb K H v (.tuple (k.map kD)) from h).tuple'
  have := rpAll_kD r
  subst this
  exact ⟨a, e, h1⟩
/-- what a dict's data stand for -/
theorem Rb.dict {v : V} {kvs : List (PyData × PyData)} (h : Rb K H v (.dict kvs)) :
    (∃ a ks ds, v = .ref a ∧ Rd H a (.dK ks) ∧ RpAll K H (ks.map (·.2)) ds ∧ kvs = (ks.map fun p => kD p.1).zip ds) ∨
    (∃ a ks ds, v = .ref a ∧ Rd H a (.dT ks) ∧ RpAll K H (ks.map (·.2)) ds ∧ kvs = (ks.map fun p => kTD p.1).zip ds) := by
  cases h with
  | rp h =>
    cases h with
    | dK h r => exact .inl ⟨_, _, _, rfl, .inr ⟨_, h⟩, r, rfl⟩
    | dT h r => exact .inr ⟨_, _, _, rfl, .inr ⟨_, h⟩, r, rfl⟩
  | dK h r => exact .inl ⟨_, _, _, rfl, .inl h, r, rfl⟩
  | dT h r => exact .inr ⟨_, _, _, rfl, .inl h, r, rfl⟩
variable {κ : Type} [DecidableEq κ] {f : κ → PyData}
theorem kvGet_rel (hf : ∀ a b, PyData.eqv (f a) (f b) = decide (a = b)) (k : κ) : ∀ {ks : List (κ × V)} {ds : List PyData}, RpAll K H (ks.map (·.2)) ds →
    (∀ d, kvGet ((ks.map fun p => f p.1).zip ds) (f k) = some d → ∃ w, valV ks k = some w ∧ Rp K H w d) ∧ (kvGet ((ks.map fun p => f p.1).zip ds) (f k)).isSome = (valV ks k).isSome
  | [], _, h => by cases h; exact ⟨fun d e => by simp [kvGet] at e, rfl⟩
  | p :: ks, _, h => by
    cases h with
    | cons h r =>
      rename_i d ds
      obtain ⟨i1, i2⟩ := kvGet_rel hf k r
      by_cases e : p.1 = k
      · have e1 : kvGet (((p :: ks).map fun p => f p.1).zip (d :: ds)) (f k) = some d := by
          unfold kvGet
          rw [List.map_cons, List.zip_cons_cons, List.find?_cons_of_pos (by rw [hf]; simp [e])]
          rfl
        rw [e1, valV_pos e]
        exact ⟨fun d' e' => ⟨p.2, rfl, by cases e'; exact h⟩, rfl⟩
      · have e1 : kvGet (((p :: ks).map fun p => f p.1).zip (d :: ds)) (f k) = kvGet ((ks.map fun p => f p.1).zip ds) (f k) := by
          unfold kvGet
          rw [List.map_cons, List.zip_cons_cons, List.find?_cons_of_neg (by rw [hf]; simp [e])]
        rw [e1, valV_neg e]
        exact ⟨i1, i2⟩
theorem any_rel (hf : ∀ a b, PyData.eqv (f a) (f b) = decide (a = b)) (k : κ) : ∀ {ks : List (κ × V)} {ds : List PyData}, ks.length = ds.length →
    (((ks.map fun p => f p.1).zip ds).any fun p => PyData.eqv p.1 (f k)) = ks.any fun kv => decide (kv.1 = k)
  | [], [], _ => rfl
  | p :: ks, d :: ds, h => by
    rw [List.map_cons, List.zip_cons_cons, List.any_cons, List.any_cons, any_rel hf k (by simpa using h), hf]
theorem map_rel (hf : ∀ a b, PyData.eqv (f a) (f b) = decide (a = b)) (k : κ) {v : V} {d : PyData} (hv : Rp K H v d) : ∀ {ks : List (κ × V)} {ds : List PyData}, RpAll K H (ks.map (·.2)) ds →
    ∃ ds', (((ks.map fun p => f p.1).zip ds).map fun p => if PyData.eqv p.1 (f k) = true then (p.1, d) else p) = ((ks.map fun kv => if kv.1 = k then (kv.1, v) else kv).map fun p => f p.1).zip ds' ∧ RpAll K H ((ks.map fun kv => if kv.1 = k then (kv.1, v) else kv).map (·.2)) ds'
  | [], _, h => by cases h; exact ⟨[], rfl, .nil⟩
  | p :: ks, _, h => by
    cases h with
    | cons h r =>
      rename_i d0 ds
      obtain ⟨ds', e1, r1⟩ := map_rel hf k hv r
      by_cases e : p.1 = k
      · refine ⟨d :: ds', ?_, ?_⟩
        · simp only [List.map_cons, List.zip_cons_cons, hf, e, decide_true, if_true]
          rw [e1]
        · simp only [List.map_cons, e, if_true]
          exact .cons hv r1
      · refine ⟨d0 :: ds', ?_, ?_⟩
        · simp only [List.map_cons, List.zip_cons_cons, hf, decide_eq_true_eq, if_neg e]
          rw [e1]
        · simp only [List.map_cons, if_neg e]
          exact .cons h r1
theorem kvPut_rel (hf : ∀ a b, PyData.eqv (f a) (f b) = decide (a = b)) (k : κ) {v : V} {d : PyData} (hv : Rp K H v d) {ks : List (κ × V)} {ds : List PyData} (r : RpAll K H (ks.map (·.2)) ds) :
    ∃ ds', kvPut ((ks.map fun p => f p.1).zip ds) (f k) d = ((putK ks k v).map fun p => f p.1).zip ds' ∧ RpAll K H ((putK ks k v).map (·.2)) ds' := by
  have hl : ks.length = ds.length := by simpa using r.length
  unfold kvPut putK
  rw [any_rel hf k hl]
  split
  · exact map_rel hf k hv r
  · refine ⟨ds ++ [d], ?_, ?_⟩
    · rw [List.map_append, List.zip_append (by simpa using hl)]
      rfl
    · rw [List.map_append]
      exact r.append (.cons hv .nil)
end
/-! looks -/
theorem keysOk_ok {kvs : List (PyData × PyData)} {k : PyData} (h : keysOk kvs k = true) : kvs ≠ [] ∧ ((kvs.all (fun p => isKey p.1) = true ∧ isKey k = true) ∨ (kvs.all (fun p => isKeyT p.1) = true ∧ isKeyT k = true)) := by
  unfold keysOk at h
  rw [Bool.and_eq_true, Bool.or_eq_true, Bool.and_eq_true, Bool.and_eq_true, Bool.not_eq_true'] at h
  exact ⟨fun z => by rw [z] at h; exact absurd h.1 (by decide), h.2⟩
section
variable {K : PySem.W.Frag} {H : Hp}
theorem dget_of {v y : V} {kvs : List (PyData × PyData)} {k : PyData} (hv : Rb K H v (.dict kvs)) (hy : Rb K H y k) (hk : keysOk kvs k = true) :
    ∃ a o, v = .ref a ∧ DGet H a y o ∧ (∀ d, kvGet kvs k = some d → ∃ w, o = some w ∧ Rp K H w d) ∧ (kvGet kvs k).isSome = o.isSome := by
  obtain ⟨hne, hk⟩ := keysOk_ok hk
  rcases hv.dict with ⟨a, ks, ds, rfl, hd, r, rfl⟩ | ⟨a, ks, ds, rfl, hd, r, rfl⟩
  · rcases hk with ⟨_, hk⟩ | ⟨ha, _⟩
    · obtain ⟨k, rfl⟩ := isKey_of hk
      have e := rb_kD hy
      subst e
      obtain ⟨i1, i2⟩ := kvGet_rel eqv_kD k r
      exact ⟨a, valV ks k, rfl, .inl ⟨ks, k, hd, rfl, rfl⟩, i1, i2⟩
    · cases ks with
      | nil => exact absurd rfl hne
      | cons p ks =>
        cases r with
        | cons h r =>
          rw [List.map_cons, List.zip_cons_cons, List.all_cons, Bool.and_eq_true] at ha
          have := ha.1
          cases h9 : p.1 <;> rw [h9] at this <;> cases this
  · rcases hk with ⟨ha, _⟩ | ⟨_, hk⟩
    · cases ks with
      | nil => exact absurd rfl hne
      | cons p ks =>
        cases r with
        | cons h r =>
          rw [List.map_cons, List.zip_cons_cons, List.all_cons, Bool.and_eq_true] at ha
          cases ha.1
    · obtain ⟨k, rfl⟩ := isKeyT_of hk
      obtain ⟨b, rfl, hb⟩ := rb_kTD hy
      obtain ⟨i1, i2⟩ := kvGet_rel eqv_kTD k r
      exact ⟨a, valV ks k, rfl, .inr ⟨ks, k, b, hd, rfl, hb, rfl⟩, i1, i2⟩
end
section
variable {X : Cx} {pins : List (Addr × Obj)} {σ : L2.St} {H : Hp} {s : Shared}
theorem ix_dict {value slice : Expr} {a : Addr} {y v : V} {u : Value} {Q : VK} (hu : X.A.units + 1 < cLine) (I : Inv X pins σ H s) (g : DGet H a y (some v)) (ry : RelV y u) (q : Q v H) (hs : subscripted slice false (.ref a) u = operate [.ref a, u] (getItem (.ref a) u)) :
    wpAny (model X.prog X.w) X.A (subscriptTail value slice (.ref a) u) (EP X pins σ Q) X.xe s := by
  have ty := dict_typeIs I g
  rcases g with ⟨kvs, k, e, ey, l⟩ | ⟨kvs, k, b, e, ey, eb, l⟩
  · subst ey
    obtain ⟨z, hd, vs, rel, dd⟩ := dk_rd I.hok e
    obtain ⟨w', hw, rw'⟩ := RelO.some_of (v := v) (o := valueAt vs k) (by rw [l]; exact rel.val k)
    exact subscriptTail_builtinR (x := w') ty PySem.F.slot_dict_getitem.lookup (wpAny_getItem_of (kV_is ry) dd.mapOf hw ⟨rfl, v, H, I.tok _, rw', q⟩) hs
  · subst ey
    cases (show u = Value.ref b from ry)
    obtain ⟨z, hd, xs, rel, dd⟩ := dt_rd I.hok e
    obtain ⟨w', hw, rw'⟩ := RelO.some_of (v := v) (o := (atKey xs k).map (·.2)) (by rw [l]; exact rel.val k)
    obtain ⟨p, hp, hp2⟩ := Option.map_eq_some_iff.mp hw
    refine subscriptTail_builtinR (x := w') ty PySem.F.slot_dict_getitem.lookup (wpAny_getItem_heap (tupleKind_room_in1 hu) (key_of I.hok eb) dd hp ?_) hs
    rw [hp2]
    exact ⟨rfl, v, H, I.tok _, rw', q⟩
theorem len_dict {a : Addr} {n : Nat} {us : List Value} {Q : VK} (I : Inv X pins σ H s) (r : Vals [V.ref a] us) (h : (∃ ks, Rd H a (.dK ks) ∧ ks.length = n) ∨ ∃ ks, Rd H a (.dT ks) ∧ ks.length = n) (q : Q (.int n) H) :
    wpAny (model X.prog X.w) X.A (call (.builtin "len") us) (EP X pins σ Q) X.xe s := by
  rw [Vals.ref1 r]
  rcases h with ⟨ks, e, rfl⟩ | ⟨ks, e, rfl⟩
  · exact d_len I e fun t s' I' => ⟨.int ks.length, H, I', ⟨t, rfl⟩, q⟩
  · obtain ⟨z, hd, xs, rel, dd⟩ := dt_rd I.hok e
    have hl : ks.length = xs.length := Paired.length rel
    refine call_len_dictH hd dd (by rw [← hl]; rw [sizeLine_eq] at z; omega) ?_
    rw [← hl]
    exact ⟨.int ks.length, H, I.tok _, ⟨_, rfl⟩, q⟩
end
end Cg

set_option maxHeartbeats 1000000
namespace Cg
open PySem PySem.Spec PyProof.Rows L2
/-! ### 8. what a new thing is locked by -/
/-- Q as it stands, or of what the result is once it is locked -/
def LK (Q : VK) : VK := fun v H' => Q v H' ∨ ∃ a u, H' a = some u ∧ Mut (some u) ∧ ∀ od, Q v (upd H' a (.frz od u))
theorem EP_lock {X : Cx} {pins : List (Addr × Obj)} {σ : L2.St} {Q : VK} {u : Value} {s : Shared} (h : EP X pins σ (LK Q) u s) : EP X pins σ Q u s := by
  obtain ⟨v, H', I, r, q⟩ := h
  rcases q with q | ⟨a, o, e, mu, q⟩
  · exact ⟨v, H', I, r, q⟩
  · obtain ⟨od, J⟩ := I.lock e mu
    exact ⟨v, _, J, r, q od⟩
theorem pe_lk {X : Cx} {e : Expr} {t : TE} (h : PE X e t) : PE X e (fun σ H Q => t σ H (LK Q)) :=
  ⟨fun pins s σ H Q I hw => thn (h.run pins s σ H _ I hw) fun _ _ z => EP_lock z⟩
theorem pe_imp {X : Cx} {e : Expr} {t t' : TE} (h : PE X e t) (i : ∀ σ H Q, t' σ H Q → t σ H Q) : PE X e t' :=
  ⟨fun pins s σ H Q I hw => h.run pins s σ H Q I (i _ _ _ hw)⟩
theorem pt_imp {X : Cx} {e : Expr} {t t' : TT} (h : PT X e t) (i : ∀ σ H Q, t' σ H Q → t σ H Q) : PT X e t' :=
  ⟨fun pins s σ H Q I hw => h.run pins s σ H Q I (i _ _ _ hw)⟩
theorem pw_imp {X : Cx} {e : Expr} {t t' : TT} (h : PW X e t) (i : ∀ σ H Q, t' σ H Q → t σ H Q) : PW X e t' :=
  ⟨fun w pins s σ H Q I hw => h.run w pins s σ H Q I (i _ _ _ hw)⟩
theorem pa_imp {X : Cx} {e : List Expr} {t t' : TA} (h : PA X e t) (i : ∀ σ H Q, t' σ H Q → t σ H Q) : PA X e t' :=
  ⟨fun p pins s σ H Q I hw => h.run p pins s σ H Q I (i _ _ _ hw)⟩
theorem same_new {H : Hp} {p : Addr} {o : HO} (hp : H p = none) : Same H (upd H p o) := fun b u e => by
  rw [upd_ne (ne_of_none e hp)]
  exact e
/-- a new list, locked -/
theorem new_list {K : PySem.W.Frag} {H : Hp} {Q : VK} {p : Addr} {xs : List V} {ds : List PyData} (hp : H p = none) (r : RpAll K H xs ds) (q : ∀ v H', Same H H' → Rp K H' v (.list ds) → Q v H') : LK Q (.ref p) (upd H p (.lst xs)) := by
  refine .inr ⟨p, _, upd_same, True.intro, fun od => ?_⟩
  rw [upd_upd]
  exact q _ _ (same_new hp) (.lst (.inl ⟨od, upd_same⟩) (r.mono (.of (same_new hp))))
theorem new_tup {K : PySem.W.Frag} {H : Hp} {Q : VK} {p : Addr} {xs : List V} {ds : List PyData} (hp : H p = none) (r : RpAll K H xs ds) (q : ∀ v H', Same H H' → Rp K H' v (.tuple ds) → Q v H') : Q (.ref p) (upd H p (.tup xs)) :=
  q _ _ (same_new hp) (.tup upd_same (r.mono (.of (same_new hp))))
section
variable {X : Cx} {pins : List (Addr × Obj)} {σ : L2.St} {H : Hp} {s : Shared}
theorem Rb.reads {v : V} {u : Value} {d : PyData} (I : Inv X pins σ H s) (h : Rb X.K H v d) (r : RelV v u) (p : d.plain = true) : ∃ as, Reads s.heap u d as := Dp.reads I d v u (h.dp p) r
theorem Rb.readsL {a : Addr} {xs : List V} {ds : List PyData} (I : Inv X pins σ H s) (h : SqL X.K H a xs) (r : RpAll X.K H xs ds) (p : PyData.plainAll ds = true) :
    ∃ its as, Vals xs its ∧ s.heap.IsList a its.toArray ∧ ReadsAll s.heap its ds as := by
  obtain ⟨its, rv, pl, _⟩ := I.list h
  obtain ⟨as, ra⟩ := Dp.readsAll I ds xs its (r.dp p) rv
  exact ⟨its, as, rv, pl.isList, ra⟩
end
/-! ### 9. the operators on data -/
def rBin (K : PySem.W.Frag) (op : Operator) : R2 := fun x y H Q => ∃ dx dy d, Rb K H x dx ∧ Rb K H y dy ∧ dBin op dx dy = .ok d ∧ ∀ v H', Same H H' → Rp K H' v d → Q v H'
theorem smallI_ok {a : Int} (h : smallI a = true) : -(2 ^ 64) < a ∧ a < 2 ^ 64 := by
  unfold smallI at h
  exact @of_decide_eq_true _ (Classical.propDecidable _) h
section
variable {X : Cx}
theorem op_catL {x y : V} {v u : Value} {Q : VK} {pins : List (Addr × Obj)} {σ : L2.St} {H : Hp} {s : Shared} (I : Inv X pins σ H s) (rx : RelV x v) (ry : RelV y u) {a b : Addr} {xs ys : List V} {da db : List PyData} (ex : x = .ref a) (ey : y = .ref b)
    (ha : SqL X.K H a xs) (hb : SqL X.K H b ys) (ra : RpAll X.K H xs da) (rb : RpAll X.K H ys db) (hz : da.length + db.length ≤ sizeLine) (q : ∀ v H', Same H H' → Rp X.K H' v (.list (da ++ db)) → Q v H') :
    wpAny (model X.prog X.w) X.A (binaryOp .Add v u) (EP X pins σ Q) X.xe s := by
  subst ex ey
  cases rx
  cases ry
  obtain ⟨ia, va, pa, _⟩ := I.list ha
  obtain ⟨ib, vb, pb, _⟩ := I.list hb
  obtain ⟨o1, n1, g1, c1, k1, t1⟩ := pa
  obtain ⟨o2, n2, g2, c2, k2, t2⟩ := pb
  obtain ⟨cl1, dd1, dt1, sl1⟩ := o1
  obtain ⟨cl2, dd2, dt2, sl2⟩ := o2
  simp only at c1 k1 t1 c2 k2 t2
  subst c1 k1 t1 c2 k2 t2
  have e1 := va.length
  have e2 := vb.length
  have e3 := ra.length
  have e4 := rb.length
  have ej : ia.toArray ++ ib.toArray = (ia ++ ib).toArray := by simp
  refine concat_meets ⟨_, g1, rfl⟩ ⟨_, g2, rfl⟩ noFill_list_add seq_list_add PySem.F.slot_list_add PySem.F.entry_list_add (PySem.F.args_list_add_2 _ _)
    (PyProof.Rows.list_addW a b ia.toArray ib.toArray n1 n2 none none sl1 sl2 (by simp only [List.size_toArray]; omega)) ⟨g1, g2, ?_⟩
  rw [ej]
  refine EP_lock ⟨.ref _, _, I.lnew (t' := s.toks) (va.append vb) (by rw [List.length_append]; omega), rfl, ?_⟩
  exact new_list I.fresh (ra.append rb) q
theorem op_catT' {x y : V} {v u : Value} {Q : VK} {pins : List (Addr × Obj)} {σ : L2.St} {H : Hp} {s : Shared} (I : Inv X pins σ H s) (rx : RelV x v) (ry : RelV y u) {a b : Addr} {xs ys : List V} {da db : List PyData} (ex : x = .ref a) (ey : y = .ref b)
    (ha : H a = some (.tup xs)) (hb : H b = some (.tup ys)) (ra : RpAll X.K H xs da) (rb : RpAll X.K H ys db) (hz : da.length + db.length ≤ sizeLine) (q : ∀ v H', Same H H' → Rp X.K H' v (.tuple (da ++ db)) → Q v H') :
    wpAny (model X.prog X.w) X.A (binaryOp .Add v u) (EP X pins σ Q) X.xe s := by
  have e3 := ra.length
  have e4 := rb.length
  refine op_catA pins s σ H x y v u Q I rx ry ⟨a, b, xs, ys, ex, ey, SqT.of ha, SqT.of hb, by omega, fun z => ?_, fun _ z => ?_, fun _ _ p hp => new_tup hp (ra.append rb) q⟩
  · subst z
    cases ra
    exact q _ _ (Same.refl _) (.tup hb rb)
  · subst z
    cases rb
    have q2 := q (.ref a) H (Same.refl _)
    rw [List.append_nil] at q2
    exact q2 (.tup ha ra)
theorem op_bin (op : Operator) : OpR X (binaryOp op) (rBin X.K op) := by
  intro pins s σ H x y v u Q I rx ry h
  obtain ⟨dx, dy, d, hx, hy, e, q⟩ := h
  unfold dBin at e
  split at e
  · rename_i a b
    cases e
    exact op_add pins s σ H x y v u Q I rx ry ⟨a, b, hx.int, hy.int, q _ _ (Same.refl _) (.int _)⟩
  · rename_i a b
    cases e
    exact op_sub pins s σ H x y v u Q I rx ry ⟨a, b, hx.int, hy.int, q _ _ (Same.refl _) (.int _)⟩
  · rename_i a b
    split at e
    · rename_i hc
      cases e
      have hc2 : CMul a b := by
        rw [Bool.or_eq_true] at hc
        rcases hc with hc | hc
        · exact .inl (smallI_ok hc)
        · exact .inr (smallI_ok hc)
      exact op_mul pins s σ H x y v u Q I rx ry ⟨a, b, hx.int, hy.int, hc2, q _ _ (Same.refl _) (.int _)⟩
    · cases e
  · rename_i a b
    split at e
    · rename_i hc
      cases e
      exact op_fdivW pins s σ H x y v u Q I rx ry ⟨a, b, hx.int, hy.int, hc, q _ _ (Same.refl _) (.int _)⟩
    · cases e
  · rename_i a b
    split at e
    · rename_i hc
      cases e
      exact op_mod pins s σ H x y v u Q I rx ry ⟨a, b, hx.int, hy.int, hc, q _ _ (Same.refl _) (.int _)⟩
    · cases e
  · rename_i a b
    split at e
    · rename_i hc
      cases e
      exact op_pow pins s σ H x y v u Q I rx ry ⟨a, b, hx.int, hy.int, ⟨hc.1, by have := hc.2.1; omega, hc.2.2⟩, q _ _ (Same.refl _) (.int _)⟩
    · cases e
  · rename_i a b
    split at e
    · rename_i hc
      cases e
      exact op_add_str pins s σ H x y v u Q I rx ry ⟨a, b, hx.str, hy.str, hc, q _ _ (Same.refl _) (.str _)⟩
    · cases e
  · rename_i a b
    split at e
    · rename_i hc
      cases e
      obtain ⟨a1, xs, ex, h1, r1⟩ := hx.list
      obtain ⟨b1, ys, ey, h2, r2⟩ := hy.list
      exact op_catL I rx ry ex ey h1 h2 r1 r2 hc q
    · cases e
  · rename_i a b
    split at e
    · rename_i hc
      cases e
      obtain ⟨a1, xs, ex, h1, r1⟩ := hx.tuple'
      obtain ⟨b1, ys, ey, h2, r2⟩ := hy.tuple'
      exact op_catT' I rx ry ex ey h1 h2 r1 r2 hc q
    · cases e
  · cases e
/-! comparisons -/
def rCmp (K : PySem.W.Frag) (op : CmpOp) : R2 := fun x y H Q => ∃ dx dy b, Rb K H x dx ∧ Rb K H y dy ∧ dCmp op dx dy = .ok b ∧ Q (.bl b) H
theorem okD_ok {d : PyData} (h : okD d = true) : d.plain = true ∧ d.depth ≤ 60 := by
  unfold okD at h
  rw [Bool.and_eq_true] at h
  exact ⟨h.1, of_decide_eq_true h.2⟩
theorem op_cmpD (hu : X.A.units + 64 < cLine) (op : CmpOp) : OpR X (compareOp op) (rCmp X.K op) := by
  intro pins s σ H x y v u Q I rx ry h
  obtain ⟨dx, dy, d, hx, hy, e, q⟩ := h
  unfold dCmp at e
  split at e
  · cases e; exact op_lt pins s σ H x y v u Q I rx ry ⟨_, _, hx.int, hy.int, q⟩
  · cases e; exact op_le pins s σ H x y v u Q I rx ry ⟨_, _, hx.int, hy.int, q⟩
  · cases e; exact op_gt pins s σ H x y v u Q I rx ry ⟨_, _, hx.int, hy.int, q⟩
  · cases e; exact op_ge pins s σ H x y v u Q I rx ry ⟨_, _, hx.int, hy.int, q⟩
  · split at e
    · rename_i hc
      cases e
      obtain ⟨p1, l1⟩ := okD_ok hc.1
      obtain ⟨p2, l2⟩ := okD_ok hc.2.1
      obtain ⟨as, r1⟩ := hx.reads I rx p1
      obtain ⟨bs, r2⟩ := hy.reads I ry p2
      exact PySem.W.lt_data r1 r2 hc.2.2.1 (fun z => by rw [z] at hc; simp [isNone] at hc) (by omega) ⟨.bl _, H, I, rfl, q⟩
    · cases e
  · split at e
    · rename_i hc
      cases e
      obtain ⟨p1, l1⟩ := okD_ok hc.1
      obtain ⟨p2, l2⟩ := okD_ok hc.2
      obtain ⟨as, r1⟩ := hx.reads I rx p1
      obtain ⟨bs, r2⟩ := hy.reads I ry p2
      exact PySem.SeqAt.eq_plain r1 r2 p1 p2 (by omega) ⟨.bl _, H, I, rfl, q⟩
    · cases e
  · split at e
    · rename_i hc
      cases e
      obtain ⟨p1, l1⟩ := okD_ok hc.1
      obtain ⟨p2, l2⟩ := okD_ok hc.2
      obtain ⟨as, r1⟩ := hx.reads I rx p1
      obtain ⟨bs, r2⟩ := hy.reads I ry p2
      exact PySem.SeqAt.ne_plain r1 r2 p1 p2 (by omega) ⟨.bl _, H, I, rfl, q⟩
    · cases e
  · split at e
    · rename_i hc
      cases e
      obtain ⟨p1, l1⟩ := okD_ok hc.1
      obtain ⟨as, r1⟩ := hx.reads I rx p1
      obtain ⟨bs, r2⟩ := hy.reads I ry (by simpa [PyData.plain] using hc.2)
      exact PySem.SeqAt.in_list_data r2 r1 hc.2 p1 (by omega) ⟨.bl _, H, I, rfl, q⟩
    · cases e
  · split at e
    · rename_i hc
      cases e
      obtain ⟨p1, l1⟩ := okD_ok hc.1
      obtain ⟨as, r1⟩ := hx.reads I rx p1
      obtain ⟨bs, r2⟩ := hy.reads I ry (by simpa [PyData.plain] using hc.2)
      exact PySem.SeqAt.notIn_list_data r2 r1 hc.2 p1 (by omega) ⟨.bl _, H, I, rfl, q⟩
    · cases e
  · split at e
    · rename_i hc
      cases e
      obtain ⟨p1, l1⟩ := okD_ok hc.1
      obtain ⟨as, r1⟩ := hx.reads I rx p1
      obtain ⟨bs, r2⟩ := hy.reads I ry (by simpa [PyData.plain] using hc.2)
      exact PySem.SeqAt.in_tuple_data r2 r1 hc.2 p1 (by omega) ⟨.bl _, H, I, rfl, q⟩
    · cases e
  · split at e
    · rename_i hc
      cases e
      obtain ⟨p1, l1⟩ := okD_ok hc.1
      obtain ⟨as, r1⟩ := hx.reads I rx p1
      obtain ⟨bs, r2⟩ := hy.reads I ry (by simpa [PyData.plain] using hc.2)
      exact PySem.SeqAt.notIn_tuple_data r2 r1 hc.2 p1 (by omega) ⟨.bl _, H, I, rfl, q⟩
    · cases e
  · cases e; exact op_in_str pins s σ H x y v u Q I rx ry ⟨_, _, hx.str, hy.str, q⟩
  · split at e
    · rename_i hc
      cases e
      obtain ⟨a, o, rfl, g, _, g2⟩ := dget_of hy hx hc
      rw [g2] at q
      obtain rfl : u = Value.ref a := ry
      exact d_in (by omega) I g rx fun s3 I3 => ⟨.bl o.isSome, H, I3, rfl, q⟩
    · cases e
  · split at e
    · rename_i hc
      cases e
      obtain ⟨a, o, rfl, g, _, g2⟩ := dget_of hy hx hc
      rw [g2] at q
      obtain rfl : u = Value.ref a := ry
      exact d_notIn (by omega) I g rx fun s3 I3 => ⟨.bl (!o.isSome), H, I3, rfl, q⟩
    · cases e
  · cases e; exact op_isN pins s σ H x y v u Q I rx ry ⟨hy.non, by rw [hx.isNon]; exact q⟩
  · cases e; exact op_notN pins s σ H x y v u Q I rx ry ⟨hy.non, by rw [hx.isNon]; exact q⟩
  · cases e; exact op_isBl pins s σ H x y v u Q I rx ry ⟨_, _, hx.bl, hy.bl, q⟩
  · cases e; exact op_notBl pins s σ H x y v u Q I rx ry ⟨_, _, hx.bl, hy.bl, q⟩
  · cases e
end
end Cg

set_option maxHeartbeats 1000000
namespace Cg
open PySem PySem.Spec PyProof.Rows L2
/-! ### dicts whose keys are tuples: {k: v}, dict(xs) -/
section
variable {X : Cx}
/-- {k: v}, the key a tuple of ints and texts -/
def tDspT (tk tv : TE) : TE := fun σ H Q => ∀ p, H p = none → tk σ (upd H p (.dT [])) fun x H1 => tv σ H1 fun y H2 =>
  H2 p = some (.dT []) ∧ ∃ (b : Addr) (ks : List Key), x = .ref b ∧ H2 b = some (.tup (ks.map kV)) ∧ Q (.ref p) (upd H2 p (.dT [(ks, y)]))
theorem pe_dspT {pos : Pos} {k v : Expr} {tk tv : TE} (hu : X.A.units + 64 < cLine) (hk : PE X k tk) (hv : PE X v tv) : PE X (.Dict [some k] [v] pos) (tDspT tk tv) := by
  refine ⟨fun pins s σ H Q I q => ?_⟩
  have hn := I.hok.fresh (Nat.le_refl s.heap.objs.size)
  have I1 := I.laid (a := s.heap.objs.size) (o := .dT []) (h' := s.heap.push { cls := .type "dict", data := .dict #[] }) (t' := s.toks) (fun _ _ q => Heap.get?_push_of_some _ q) (Nat.le_refl _) (dt_empty s.heap I.big)
  let Q' : List (V × V) → Hp → Prop := fun ps H2 => match ps with
    | [(x, y)] => H2 s.heap.objs.size = some (.dT []) ∧ ∃ (b : Addr) (ks : List Key), x = .ref b ∧ H2 b = some (.tup (ks.map kV)) ∧ Q (.ref s.heap.objs.size) (upd H2 s.heap.objs.size (.dT [(ks, y)]))
    | _ => False
  have q1 : tPairs [(tk, tv)] σ (upd H s.heap.objs.size (.dT [])) Q' := q _ hn
  rw [arm_eval_Dict, zip_pairTrees [some k] [v] _ _ rfl rfl, dictDisplay_pairs _ (by simp [pairTrees]) (by simp [pairTrees])]
  refine wpAny_bind (wpAny_standAt (wpAny_bind (wpAny_subDictH (knd := tupleKind (mixKind X.prog X.w)) (Q := fun d s' => wpAny (model X.prog X.w) X.A (pure (Value.ref d)) _ _ s') (by show X.A.units < cLine; omega) (by simp [pairTrees])
    (thn ((pps_cons hk hv pps_nil).run pins _ σ _ _ I1 q1) fun ws s2 ⟨ps, H2, I2, rel, q3⟩ => ?_))))
  match ps, q3 with
  | [(x, y)], ⟨e, b, ks, ex, eb, q2⟩ =>
  subst ex
  obtain ⟨z, hd, xs0, r0, dd⟩ := dt_of I2.hok e
  cases r0
  cases rel with
  | @cons _ u _ us h t =>
    cases t
    obtain ⟨u1, u2⟩ := u
    obtain ⟨r1, r2⟩ := h
    obtain rfl : u1 = Value.ref b := r1
    refine ⟨[(ks, b, u2)], ⟨rfl, rfl, key_of I2.hok eb, trivial⟩, dd, fun h' tk dd' hs => wpAny_pure ⟨.ref s.heap.objs.size, _, ?_, rfl, q2⟩⟩
    have rel := KT.put (H := H2) (kvs := []) (xs := []) .nil ks eb r2
    obtain ⟨q, es, ep, hq, h2, h3, h4, _, h5⟩ := dd'
    refine d_write I2 (by rw [e]; exact True.intro) hs ⟨q, hq⟩ ⟨Nat.le_trans (show _ ≤ 1 from Nat.le_refl 1) (by rw [sizeLine_eq]; decide), hd, _, rel.keeps fun c ys ec => ?_, q, es, ep, hq, h2, h3, h4, h5⟩
    rw [upd_ne (ne_of ec e (fun z => nomatch z))]
    exact ec

/-- range(n) -/
theorem cr_range1 : CallR X (.type "range") (fun vs H Q => ∃ j, vs = [V.int j] ∧ ∀ p, H p = none → Q (.ref p) (upd H p (.rng 0 j))) := by
  intro pins s σ H vs us Q I r h
  obtain ⟨j, rfl, q⟩ := h
  obtain ⟨u1, rfl, rj⟩ := vals1 r
  obtain ⟨t, rfl⟩ := rj
  refine call_range_1 ⟨.ref s.heap.objs.size, upd H s.heap.objs.size (.rng 0 j), I.laid (t' := s.toks + 1 + 1) (fun b o e => Heap.get?_push_of_some _ e) (Nat.le_refl _) ?_, rfl, q _ (I.hok.fresh (Nat.le_refl _))⟩
  exact ⟨s.toks, t, s.toks + 1, Heap.get?_push_size _ rfl⟩
/-! dict(xs) -/
def mergeT (kvs more : List (List Key × V)) : List (List Key × V) := more.foldl (fun acc kv => putK acc kv.1 kv.2) kvs
theorem mergeT_len : ∀ (more kvs : List (List Key × V)), (mergeT kvs more).length ≤ kvs.length + more.length
  | [], kvs => by show kvs.length ≤ kvs.length + 0; omega
  | p :: r, kvs => by
    have h1 := mergeT_len r (putK kvs p.1 p.2)
    have h2 := length_putK kvs p.1 p.2
    show (mergeT (putK kvs p.1 p.2) r).length ≤ _
    rw [List.length_cons]; omega
theorem mergeT_nd : ∀ (kvs acc : List (List Key × V)), (kvs.map (·.1)).Nodup → (∀ p ∈ acc, p.1 ∉ kvs.map (·.1)) → mergeT acc kvs = acc ++ kvs
  | [], acc, _, _ => by simp [mergeT]
  | p :: r, acc, hn, ha => by
    rw [List.map_cons] at hn ha
    obtain ⟨n1, n2⟩ := List.nodup_cons.mp hn
    have e : putK acc p.1 p.2 = acc ++ [p] := by
      unfold putK
      rw [if_neg]
      rw [List.any_eq_true]
      rintro ⟨q, hq, e⟩
      exact ha q hq (by rw [of_decide_eq_true e]; exact List.mem_cons_self)
    show mergeT (putK acc p.1 p.2) r = _
    rw [e, mergeT_nd r (acc ++ [p]) n2 fun q hq h => ?_, List.append_assoc]
    · rfl
    · rcases List.mem_append.mp hq with hq | hq
      · exact ha q hq (List.mem_cons_of_mem _ h)
      · simp at hq
        subst hq
        exact n1 h
theorem KT.merge {H : Hp} : ∀ {more : List (List Key × V)} {rs : List (List Key × Addr × Value)} {kvs : List (List Key × V)} {xs : List (List Key × Addr × Value)}, KT H more rs → KT H kvs xs → KT H (mergeT kvs more) (storedAllH xs rs) := by
  intro more rs kvs xs r
  induction r generalizing kvs xs with
  | nil => intro q; exact q
  | @cons p q ps qs h t ih =>
    intro r0
    have e : KT H (putK kvs p.1 p.2) (storedH xs q.1 q.2.1 q.2.2) := by
      have := r0.put p.1 h.2.1 h.2.2
      rw [← h.1]; exact this
    exact ih e
theorem pairsT_of {pins : List (Addr × Obj)} {σ : L2.St} {H : Hp} {s : Shared} (I : Inv X pins σ H s) : ∀ {ps : List Addr} {kvs : List (List Key × V)}, Paired (fun p (kv : List Key × V) => ∃ b, SqT X.K H p [.ref b, kv.2] ∧ H b = some (.tup (kv.1.map kV))) ps kvs →
    ∃ rs : List (List Key × Addr × Value), KT H kvs rs ∧ rs.length = ps.length ∧ ∀ (j : Nat) (q : List Key × Addr × Value), rs[j]? = some q → ∃ T : Addr, ps[j]? = some T ∧ IsTup s.heap T #[.ref q.2.1, q.2.2]
  | _, _, .nil => ⟨[], .nil, rfl, fun j q e => by simp at e⟩
  | _, _, .cons (a := p) (b := kv) h t => by
    obtain ⟨rs, r, hl, hp⟩ := pairsT_of I t
    obtain ⟨b, h, hb⟩ := h
    obtain ⟨its, rv, ht, _⟩ := I.tuple h
    obtain ⟨u, y, ei, ru, ry⟩ := vals2 rv
    subst ei
    obtain rfl : u = Value.ref b := ru
    refine ⟨(kv.1, b, y) :: rs, .cons ⟨rfl, hb, ry⟩ r, by rw [List.length_cons, List.length_cons, hl], fun j q e => ?_⟩
    cases j with
    | zero =>
      have e' : (kv.1, b, y) = q := Option.some.inj e
      subst e'
      exact ⟨p, rfl, ht⟩
    | succ j =>
      obtain ⟨T, e1, e2⟩ := hp j q (by simpa using e)
      exact ⟨T, by simpa using e1, e2⟩
theorem kt_mem {H : Hp} : ∀ {l : List (List Key × V)} {m : List (List Key × Addr × Value)}, KT H l m → ∀ x ∈ m, H x.2.1 = some (.tup (x.1.map kV)) := by
  intro l m q
  induction q with
  | nil => intro x hx; exact nomatch hx
  | @cons p q ps qs hq t ih =>
    intro x hx
    rcases List.mem_cons.mp hx with e | hx
    · subst e
      rw [← hq.1]; exact hq.2.1
    · exact ih x hx
/-- dict(xs) of a list of pairs whose firsts are tuples of ints and texts -/
theorem call_dictT (hcalm : X.calm = true) (hu : X.A.units + 64 < cLine) : CallR X (.type "dict") (fun xs H Q => ∃ (a : Addr) (ps : List Addr) (kvs : List (List Key × V)), xs = [.ref a] ∧ SqL X.K H a (ps.map V.ref) ∧
    Paired (fun p (kv : List Key × V) => ∃ b, SqT X.K H p [.ref b, kv.2] ∧ H b = some (.tup (kv.1.map kV))) ps kvs ∧ ∀ p, H p = none → Q (.ref p) (upd H p (.dT (mergeT [] kvs)))) := by
  intro pins s σ H xs us Q I r q
  obtain ⟨a, ps, kvs, ex, hq, hp, q⟩ := q
  subst ex
  obtain ⟨u, eu, rx⟩ := vals1 r
  subst eu
  cases rx
  obtain ⟨its, rv, pl, hz⟩ := I.list hq
  have ei := refs_at rv
  subst ei
  rw [List.length_map] at hz
  obtain ⟨rs, rel, hl, hpr⟩ := pairsT_of I hp
  obtain ⟨o, n, ho, hc, hd, hdat⟩ := pl
  let Ts : Nat → Addr := fun j => (ps[j]?).getD 0
  let prs : List (Value × Value) := rs.map fun q => (Value.ref q.2.1, q.2.2)
  have hlp : prs.length = ps.length := by simp [prs, hl]
  have at_ : ∀ j k v, prs[j]? = some (k, v) → ∃ q : List Key × Addr × Value, rs[j]? = some q ∧ k = Value.ref q.2.1 ∧ v = q.2.2 := fun j k v e => by
    rw [List.getElem?_map, Option.map_eq_some_iff] at e
    obtain ⟨q, e1, e2⟩ := e
    cases e2
    exact ⟨q, e1, rfl, rfl⟩
  refine call_dict_pairsH (knd := tupleKind (mixKind X.prog X.w)) (ps := rs) (PairArg.list a (ps.map Value.ref).toArray Ts prs) (I.ok.hd hcalm) (show X.A.in1.in1.units < cLine from ?_) ⟨⟨o, n, ho, hc, hd, hdat⟩, by simp [hlp], fun j k v e => ?_⟩ ⟨by simp [prs], fun i key v e => ?_⟩ ?_ (by rw [hlp]; exact hz) fun h' tk dd' k => ?_
  · show X.A.units + 1 + 1 < cLine
    omega
  · obtain ⟨q, e1, rfl, rfl⟩ := at_ j k v e
    obtain ⟨T, e2, e3⟩ := hpr j q e1
    exact ⟨by simp [e2, Ts], .inl (by simp [Ts, e2]; obtain ⟨o, h1, h2, n, h4⟩ := e3; exact ⟨o, h1, h2, n, h4⟩)⟩
  · obtain ⟨q, e1, rfl, rfl⟩ := at_ i key v e
    exact ⟨q.1, q.2.1, e1, rfl⟩
  · intro h' hk x hx
    obtain ⟨o, its, n, h1, h2⟩ := key_of (P := X.prog) (w := X.w) I.hok (kt_mem rel x hx)
    exact ⟨o, its, n, hk _ _ (Nat.ne_of_lt (Heap.lt_size h1)) (by simp) h1, h2⟩
  · have hm : (s.heap.objs.size == sysModules) = false := beq_eq_false_iff_ne.mpr (Nat.ne_of_gt I.big)
    have hlen : (mergeT [] kvs).length ≤ sizeLine := by
      refine Nat.le_trans (mergeT_len kvs []) ?_
      rw [List.length_nil, Nat.zero_add, Paired.length rel, hl]
      exact hz
    have hn := I.hok.fresh (Nat.le_refl s.heap.objs.size)
    obtain ⟨q0, es, ep, hq0, h2, h3, h4, _, h5⟩ := dd'
    refine ⟨.ref s.heap.objs.size, upd H s.heap.objs.size (.dT (mergeT [] kvs)), I.laid (t' := tk) (fun b o e => k b o (by simp) e) (Nat.le_refl _) ?_, rfl, q _ hn⟩
    refine ⟨hlen, hm, _, (KT.merge rel .nil).keeps fun c ys ec => ?_, q0, es, ep, hq0, h2, h3, h4, h5⟩
    rw [upd_ne (ne_of_none ec hn)]
    exact ec
end
end Cg

set_option maxHeartbeats 1000000
namespace Cg
open PySem PySem.Spec PyProof.Rows L2
/-! ### 10. built-ins on data -/
inductive RbAll (K : PySem.W.Frag) (H : Hp) : List V → List PyData → Prop
  | nil : RbAll K H [] []
  | cons {v : V} {vs : List V} {d : PyData} {ds : List PyData} : Rb K H v d → RbAll K H vs ds → RbAll K H (v :: vs) (d :: ds)
theorem RbAll.mono {K : PySem.W.Frag} {H H' : Hp} (k : Same H H') : ∀ {vs : List V} {ds : List PyData}, RbAll K H vs ds → RbAll K H' vs ds
  | _, _, .nil => .nil
  | _, _, .cons h r => .cons (h.mono k) (RbAll.mono k r)
theorem RbAll.one {K : PySem.W.Frag} {H : Hp} {vs : List V} {d : PyData} (h : RbAll K H vs [d]) : ∃ v, vs = [v] ∧ Rb K H v d := by
  cases h with
  | cons h r => cases r; exact ⟨_, rfl, h⟩
theorem RbAll.two {K : PySem.W.Frag} {H : Hp} {vs : List V} {d e : PyData} (h : RbAll K H vs [d, e]) : ∃ v w, vs = [v, w] ∧ Rb K H v d ∧ Rb K H w e := by
  cases h with
  | cons h r => cases r with
    | cons h2 r2 => cases r2; exact ⟨_, _, rfl, h, h2⟩
section
variable {X : Cx}
/-! items, slices, length -/
def rIxD (K : PySem.W.Frag) : R2 := fun x y H Q => ∃ dx dy d, Rb K H x dx ∧ Rb K H y dy ∧ dIx dx dy = .ok d ∧ ∀ v, Rp K H v d → Q v H
theorem atI_rp {K : PySem.W.Frag} {H : Hp} {xs : List V} {ds : List PyData} (r : RpAll K H xs ds) {k : Int} {d : PyData} (h : atI ds k = some d) : ∃ v, atI xs k = some v ∧ Rp K H v d := by
  unfold atI at h ⊢
  rw [← r.length] at h
  obtain ⟨j, hj, hd⟩ := Option.bind_eq_some_iff.mp h
  obtain ⟨v, hv, rv⟩ := r.get' hd
  exact ⟨v, by rw [hj]; exact hv, rv⟩
theorem ix_data (hu : X.A.units + 64 < cLine) : IxR X (rIxD X.K) := by
  intro ve se pins s σ H x y v u Q I rx ry h hs
  obtain ⟨dx, dy, d, hx, hy, e, q⟩ := h
  unfold dIx at e
  split at e
  · rename_i xs k
    split at e
    · rename_i d' hk
      cases e
      obtain ⟨a, vs, rfl, h1, r1⟩ := hx.list
      obtain ⟨w, hw, rw'⟩ := atI_rp r1 hk
      exact ix_list ve se pins s σ H _ y v u Q I rx ry ⟨a, vs, k, w, rfl, hy.int, h1, hw, q w rw'⟩ hs
    · cases e
  · rename_i xs k
    split at e
    · rename_i d' hk
      cases e
      obtain ⟨a, vs, rfl, h1, r1⟩ := hx.tuple
      obtain ⟨w, hw, rw'⟩ := atI_rp r1 hk
      exact ix_tup ve se pins s σ H _ y v u Q I rx ry ⟨a, vs, k, w, rfl, hy.int, h1, hw, q w rw'⟩ hs
    · cases e
  · rename_i z k
    split at e
    · rename_i hz
      split at e
      · rename_i c hc
        cases e
        exact ix_str ve se pins s σ H x y v u Q I rx ry ⟨z, k, c, hx.str, hy.int, hz, hc, q _ (.str _)⟩ hs
      · cases e
    · cases e
  · split at e
    · rename_i hc
      split at e
      · rename_i d' hk
        cases e
        obtain ⟨a, o, rfl, g, g1, _⟩ := dget_of hx hy hc
        obtain ⟨w, rfl, rw'⟩ := g1 _ hk
        obtain rfl : v = Value.ref a := rx
        exact ix_dict (by omega) I g ry (q w rw') hs
      · cases e
    · cases e
  · cases e
theorem cut_rp {K : PySem.W.Frag} {H : Hp} {xs : List V} {ds : List PyData} (r : RpAll K H xs ds) (lo hi : Option Int) : RpAll K H (cutV xs lo hi) (cutD ds lo hi) := by
  unfold cutV cutD
  rw [← r.length]
  exact (r.drop _).take _
def rSlD (K : PySem.W.Frag) : V → Option Int → Option Int → Hp → VK → Prop := fun x lo hi H Q => ∃ dx d, Rb K H x dx ∧ dSlc dx lo hi = .ok d ∧ ∀ v H', Same H H' → Rp K H' v d → Q v H'
theorem cut_whole {ds : List PyData} {lo hi : Option Int} (h : HT.sIx ds.length 0 lo = 0 ∧ HT.sIx ds.length ds.length hi = ds.length) : cutD ds lo hi = ds := by
  unfold cutD
  rw [h.1, h.2, List.drop_zero, Nat.sub_zero, List.take_length]
theorem sl_data : SlR X (rSlD X.K) := by
  intro pins s σ H x v vl vu lo hi sl Q I rx hs pl pu h
  obtain ⟨dx, d, hx, e, q⟩ := h
  unfold dSlc at e
  split at e
  · rename_i ds
    cases e
    obtain ⟨a, vs, rfl, h1, r1⟩ := hx.list
    obtain ⟨T, g, a1, a2, a3⟩ := sl_list pins s σ H _ v vl vu lo hi sl (LK Q) I rx hs pl pu ⟨a, vs, rfl, h1, fun p hp => new_list hp (cut_rp r1 lo hi) q⟩
    exact ⟨T, g, a1, a2, thn a3 fun _ _ z => EP_lock z⟩
  · rename_i ds
    cases e
    obtain ⟨a, vs, rfl, h1, r1⟩ := hx.tuple'
    have hl := r1.length
    refine sl_tupA pins s σ H _ v vl vu lo hi sl Q I rx hs pl pu ⟨a, vs, rfl, SqT.of h1, fun w => ?_, fun _ p hp => new_tup hp (cut_rp r1 lo hi) q⟩
    rw [hl] at w
    have q2 := q (.ref a) H (Same.refl _)
    rw [cut_whole w] at q2
    exact q2 (.tup h1 r1)
  · rename_i z
    split at e
    · rename_i hz
      cases e
      exact sl_str pins s σ H x v vl vu lo hi sl Q I rx hs pl pu ⟨z, hx.str, hz, q _ _ (Same.refl _) (.str _)⟩
    · cases e
  · cases e
/-! isinstance -/
def tyN : Ty → String
  | .int => "int"
  | .bool => "bool"
  | .str => "str"
  | .list => "list"
  | .tuple => "tuple"
def dtN : PyData → String
  | .none => "NoneType"
  | .bool _ => "bool"
  | .int _ => "int"
  | .str _ => "str"
  | .list _ => "list"
  | .tuple _ => "tuple"
  | .dict _ => "dict"
theorem kitB_d (t : Ty) (d : PyData) (h : ∀ kvs, d ≠ .dict kvs) : kitB (dtN d) (tyN t) = some (isTy t d) := by
  cases t <;> cases d <;> first
    | exact absurd rfl (h _)
    | (simp only [dtN, tyN, isTy]; decide +kernel)
theorem tyX_d {K : PySem.W.Frag} {H : Hp} {v : V} {d : PyData} (h : Rb K H v d) (hd : ∀ kvs, d ≠ .dict kvs) : TyX K H v (.type (dtN d)) := by
  cases h with
  | rp h => cases h with
    | non => exact .base .non
    | bl b => exact .base (.bl b)
    | int i => exact .base (.int i)
    | str x => exact .base (.str x)
    | lst h r =>
      rcases h with ⟨o, h⟩ | ⟨o, its, n, h, c, _⟩
      · exact .base (.frz h)
      · exact .kList h c
    | tup h r =>
      exact .base (.tup h)
    | dK h r => exact absurd rfl (hd _)
    | dT h r => exact absurd rfl (hd _)
  | lst h r => exact .base (.lst h)
  | dK h r => exact absurd rfl (hd _)
  | dT h r => exact absurd rfl (hd _)
def rIsiD (K : PySem.W.Frag) (t : Ty) : List V → Hp → VK → Prop := fun xs H Q => ∃ x d e, xs = [x, .ty (tyN t)] ∧ Rb K H x d ∧ dIsi t d = .ok e ∧ ∀ v, Rp K H v e → Q v H
theorem call_isiD (t : Ty) : CallR X (.builtin "isinstance") (rIsiD X.K t) := by
  intro pins s σ H xs us Q I r h
  obtain ⟨x, d, e, rfl, hx, he, q⟩ := h
  have nd : ∀ kvs, d ≠ .dict kvs := fun kvs z => by
    subst z
    simp [dIsi] at he
  have he2 : e = .bool (isTy t d) := by
    cases d <;> simp [dIsi] at he <;> exact he.symm
  subst he2
  exact call_isi pins s σ H _ us Q I r ⟨x, .ty (tyN t), .type (dtN d), .type (tyN t), isTy t d, rfl, .ty _, tyX_d hx nd, kit_ty (kitB_d t d nd), q _ (.bl _)⟩
/-! functions -/
def biV : Bi → Value
  | .len => .builtin "len"
  | .abs => .builtin "abs"
  | .minL => .builtin "min"
  | .maxL => .builtin "max"
  | .min2 => .builtin "min"
  | .max2 => .builtin "max"
  | .sum => .builtin "sum"
  | .any => .builtin "any"
  | .all => .builtin "all"
  | .sorted => .builtin "sorted"
  | .tuple => .type "tuple"
  | .list => .type "list"
  | .int => .type "int"
  | .str => .type "str"
  | .dict => .type "dict"
def rBlt (K : PySem.W.Frag) (f : Bi) : List V → Hp → VK → Prop := fun xs H Q => ∃ ds d, RbAll K H xs ds ∧ dBlt f ds = .ok d ∧ ∀ v H', Same H H' → Rp K H' v d → Q v H'
theorem foldl_max_mem : ∀ (ns : List Int) (n : Int), (ns.foldl max n = n ∨ ns.foldl max n ∈ ns) ∧ n ≤ ns.foldl max n ∧ ∀ y ∈ ns, y ≤ ns.foldl max n
  | [], n => ⟨.inl rfl, Int.le_refl _, fun y h => nomatch h⟩
  | m :: ns, n => by
    obtain ⟨h1, h2, h3⟩ := foldl_max_mem ns (max n m)
    rw [List.foldl_cons]
    refine ⟨?_, Int.le_trans (Int.le_max_left n m) h2, fun y hy => ?_⟩
    · rcases h1 with h1 | h1
      · rw [h1]
        by_cases c : n ≤ m
        · exact .inr (by rw [Int.max_eq_right c]; exact List.mem_cons_self)
        · exact .inl (Int.max_eq_left (by omega))
      · exact .inr (List.mem_cons_of_mem _ h1)
    · rcases List.mem_cons.mp hy with rfl | hy
      · exact Int.le_trans (Int.le_max_right n y) h2
      · exact h3 y hy
theorem call_lenD' {x : V} {d e : PyData} {us : List Value} {Q : VK} {pins : List (Addr × Obj)} {σ : L2.St} {H : Hp} {s : Shared} (I : Inv X pins σ H s) (r : Vals [x] us) (hx : Rb X.K H x d) (he : dLen d = .ok e) (q : ∀ v, Rp X.K H v e → Q v H) :
    wpAny (model X.prog X.w) X.A (call (.builtin "len") us) (EP X pins σ Q) X.xe s := by
  unfold dLen at he
  split at he
  · rename_i ds
    cases he
    obtain ⟨a, vs, rfl, h1, r1⟩ := hx.list
    exact call_len pins s σ H _ us Q I r ⟨_, ds.length, rfl, .inl ⟨vs, h1, r1.length.symm⟩, q _ (.int _)⟩
  · rename_i ds
    cases he
    obtain ⟨a, vs, rfl, h1, r1⟩ := hx.tuple
    exact call_len pins s σ H _ us Q I r ⟨_, ds.length, rfl, .inr ⟨vs, h1, r1.length.symm⟩, q _ (.int _)⟩
  · rename_i z
    split at he
    · rename_i hz
      cases he
      have e2 := hx.str
      subst e2
      exact call_len pins s σ H _ us Q I r ⟨_, z.length, rfl, ⟨hz, rfl⟩, q _ (.int _)⟩
    · cases he
  · rename_i kvs
    cases he
    rcases hx.dict with ⟨a, ks, ds, rfl, hd, r1, rfl⟩ | ⟨a, ks, ds, rfl, hd, r1, rfl⟩
    · have hl := r1.length
      exact len_dict I r (.inl ⟨ks, hd, by simp only [List.length_zip, List.length_map] at hl ⊢; omega⟩) (q _ (.int _))
    · have hl := r1.length
      exact len_dict I r (.inr ⟨ks, hd, by simp only [List.length_zip, List.length_map] at hl ⊢; omega⟩) (q _ (.int _))
  · cases he
theorem sort_snd {α : Type} (zs : List (α × PyData)) : (zs.mergeSort (PySem.W.dataLe false Prod.snd)).map Prod.snd = (zs.map Prod.snd).mergeSort (PySem.W.dataLe false id) :=
  PySem.W.sort_maps Prod.snd fun _ _ _ _ => rfl
theorem zip_rp {K : PySem.W.Frag} {H : Hp} : ∀ {vs : List V} {ds : List PyData}, RpAll K H vs ds → (∀ p ∈ vs.zip ds, Rp K H p.1 p.2) ∧ (vs.zip ds).map Prod.snd = ds
  | _, _, .nil => ⟨fun p h => (nomatch h), rfl⟩
  | _, _, .cons h r => by
    obtain ⟨h1, h2⟩ := zip_rp r
    refine ⟨fun p hp => ?_, by rw [List.zip_cons_cons, List.map_cons, h2]⟩
    rw [List.zip_cons_cons] at hp
    rcases List.mem_cons.mp hp with rfl | hp
    · exact h
    · exact h1 p hp
theorem rp_of_zip {K : PySem.W.Frag} {H : Hp} : ∀ {zs : List (V × PyData)}, (∀ p ∈ zs, Rp K H p.1 p.2) → RpAll K H (zs.map Prod.fst) (zs.map Prod.snd)
  | [], _ => .nil
  | z :: zs, h => .cons (h z List.mem_cons_self) (rp_of_zip fun p hp => h p (List.mem_cons_of_mem _ hp))
theorem each_zip {K : PySem.W.Frag} {H : Hp} : ∀ {vs : List V} {ds : List PyData} {us : List Value}, RpAll K H vs ds → Vals vs us → PySem.W.EachIs (fun u (p : V × PyData) => RelV p.1 u ∧ Rp K H p.1 p.2) us (vs.zip ds)
  | _, _, _, .nil, .nil => .nil
  | _, _, _, .cons h r, .cons q t => .cons ⟨q, h⟩ (each_zip r t)
theorem vals_each {K : PySem.W.Frag} {H : Hp} : ∀ {us : List Value} {zs : List (V × PyData)}, PySem.W.EachIs (fun u (p : V × PyData) => RelV p.1 u ∧ Rp K H p.1 p.2) us zs → Vals (zs.map Prod.fst) us ∧ ∀ p ∈ zs, Rp K H p.1 p.2
  | _, _, .nil => ⟨.nil, fun p h => (nomatch h)⟩
  | _, _, .cons h r => by
    obtain ⟨h1, h2⟩ := vals_each r
    refine ⟨.cons h.1 h1, fun p hp => ?_⟩
    rcases List.mem_cons.mp hp with rfl | hp
    · exact h.2
    · exact h2 p hp
theorem call_sortedD {x : V} {ds : List PyData} {e : PyData} {us : List Value} {Q : VK} {pins : List (Addr × Obj)} {σ : L2.St} {H : Hp} {s : Shared} (hu : X.A.units + 64 < cLine) (I : Inv X pins σ H s) (r : Vals [x] us) (hx : Rb X.K H x (.list ds)) (he : dSorted ds = .ok e)
    (q : ∀ v H', Same H H' → Rp X.K H' v e → Q v H') : wpAny (model X.prog X.w) X.A (call (.builtin "sorted") us) (EP X pins σ Q) X.xe s := by
  unfold dSorted at he
  split at he
  · rename_i hc
    cases he
    obtain ⟨hs, hL⟩ := hc
    unfold sortableD at hs
    simp only [Bool.and_eq_true, Bool.or_eq_true, List.all_eq_true, decide_eq_true_eq] at hs
    obtain ⟨⟨⟨hp, hal⟩, hdp⟩, hk⟩ := hs
    obtain ⟨a, vs, rfl, h1, r1⟩ := hx.list
    rw [Vals.ref1 r]
    obtain ⟨its, as, rv, hl, hr⟩ := Rb.readsL I h1 r1 hp
    have hz := (zip_rp r1).2
    have eR := each_zip r1 rv
    have er : PySem.W.EachIs (fun v (b : V × PyData) => ∃ as, Reads s.heap v (Prod.snd b) as) its (vs.zip ds) := by
      rw [← hz] at hr
      exact PySem.W.readsAll_each Prod.snd hr
    refine PySem.W.sorted_data (enc := Prod.snd) hl eR er (by rw [hz]; exact fun d hd d' hd' => hal d hd d' hd') ?_ (by rw [← List.length_map (f := Prod.snd), hz]; exact hL) ?_ fun out ho hE => ?_
    · rw [hz]
      rcases hk with hk | hk
      · refine .inl fun d hd => ?_
        have := hk d hd
        split at this
        · exact ⟨_, _, rfl⟩
        · cases this
      · refine .inr fun d hd => ?_
        have := hk d hd
        exact ⟨fun z => (by rw [z] at this; simp at this), fun xs z => (by rw [z] at this; simp at this)⟩
    · intro b hb
      have : b.2 ∈ ds := by rw [← hz]; exact List.mem_map_of_mem hb
      have := hdp _ this
      omega
    · obtain ⟨ep, he'⟩ := PyProof.Rows.sortedAll_at s.heap its out.toArray
      obtain ⟨w1, w2⟩ := vals_each hE
      have rp := rp_of_zip w2
      rw [sort_snd, hz] at rp
      have hlen : (List.map Prod.fst ((vs.zip ds).mergeSort (PySem.W.dataLe false Prod.snd))).length ≤ sizeLine := by
        rw [rp.length, List.length_mergeSort]
        exact hL
      refine EP_lock ⟨.ref _, upd H (s.heap.objs.size + 1) (.lst _), I.laid (t' := s.toks) (fun _ _ => PyProof.Rows.sortedAll_old) (Nat.le_succ _) ⟨hlen, out, ep, w1, ?_⟩, rfl, new_list (I.hok.fresh (Nat.le_succ _)) rp q⟩
      exact he'
  · cases he
theorem le_int_d (a b : Int) : decide (a ≤ b) = PySem.W.dataLe false id (PyData.int a) (PyData.int b) := by
  have := congrFun (congrFun (PySem.W.dataLe_int (fun x : Int => x)) a) b
  exact this.symm
theorem reads_keys {h : Heap} : ∀ {k : List Key} {us : List Value}, Vals (k.map kV) us → ReadsAll h us (k.map kD) []
  | [], _, .nil => .nil
  | k :: ks, _, .cons (b := b) r t => by
    have ih := reads_keys (h := h) (k := ks) t
    have h1 : ∃ x : PyData, kD k = x ∧ Reads h b x [] := by
      cases k with
      | inl i => obtain ⟨t, rfl⟩ := r; exact ⟨_, rfl, .int i t⟩
      | inr x => obtain ⟨t, rfl⟩ := r; exact ⟨_, rfl, .str x t⟩
    obtain ⟨x, ex, rx⟩ := h1
    rw [List.map_cons, ex]
    exact .cons (as := []) (bs := []) rx ih
theorem keys_each {P : Program} {w : World} {K : PySem.W.Frag} {H : Hp} {h h2 : Heap} (ok : HOk P w H h) (keep : ∀ b o, h.get? b = some o → h2.get? b = some o) : ∀ {ks : List (List Key × V)} {bs : List Addr}, IsKeys H ks bs →
    PySem.W.EachIs (fun u (p : V × PyData) => RelV p.1 u ∧ Rp K H p.1 p.2) (bs.map Value.ref) ((bs.map V.ref).zip (ks.map fun p => kTD p.1)) ∧ PySem.W.EachIs (fun u (p : V × PyData) => ∃ as, Reads h2 u (Prod.snd p) as ∧ ∀ D : Addr, D ∉ as) (bs.map Value.ref) ((bs.map V.ref).zip (ks.map fun p => kTD p.1))
  | _, _, .nil => ⟨.nil, .nil⟩
  | p :: ks, b :: bs, .cons hb t => by
    obtain ⟨i1, i2⟩ := keys_each (K := K) ok keep t
    refine ⟨.cons ⟨rfl, .tup hb (rp_keys' _)⟩ i1, .cons ?_ i2⟩
    obtain ⟨_, its, rv, ot, hot, hct, nt, hdt⟩ := (show ObjOk P w H h b (.tup (p.1.map kV)) from ok b _ hb)
    exact ⟨[], .tuple (keep _ _ hot) hct hdt (by simpa using reads_keys rv), fun D hD => nomatch hD⟩
where
  rp_keys' {K : PySem.W.Frag} {H : Hp} : ∀ ks : List Key, RpAll K H (ks.map kV) (ks.map kD)
    | [] => .nil
    | k :: ks => .cons (by cases k with
      | inl i => exact .int i
      | inr x => exact .str x) (rp_keys' ks)
theorem call_sortedDT {a : Addr} {ks : List (List Key × V)} {e : PyData} {us : List Value} {Q : VK} {pins : List (Addr × Obj)} {σ : L2.St} {H : Hp} {s : Shared} (hc : X.calm = true) (hu : X.A.units + 64 < cLine) (I : Inv X pins σ H s) (r : Vals [V.ref a] us)
    (hd : Rd H a (.dT ks)) (he : dSorted (ks.map fun p => kTD p.1) = .ok e) (q : ∀ v H', Same H H' → Rp X.K H' v e → Q v H') : wpAny (model X.prog X.w) X.A (call (.builtin "sorted") us) (EP X pins σ Q) X.xe s := by
  unfold dSorted at he
  split at he
  · rename_i hcc
    cases he
    obtain ⟨hs, hL⟩ := hcc
    unfold sortableD at hs
    simp only [Bool.and_eq_true, Bool.or_eq_true, List.all_eq_true, decide_eq_true_eq] at hs
    obtain ⟨⟨⟨hp, hal⟩, hdp⟩, hk⟩ := hs
    rw [Vals.ref1 r]
    obtain ⟨z, hsys, ks', pr, o, es, ep, ho, hx, hdt, hes, hn⟩ := (show ObjOk X.prog X.w H s.heap a (.dT ks) from hd.ok I.hok)
    have l1 : es.size = ks'.length := size_of_entries hes
    have l2 : ks.length = ks'.length := Paired.length pr
    refine Calls.call_function_entry PyProof.Rows.kind_sorted PyProof.Rows.plain_sorted PyProof.Rows.entry_sorted (PyProof.Rows.args_sorted1 _) ?_
    unfold Builtin.«sorted»
    refine wpAny_bind (m := checkCount "sorted" 1 1 _) (wpAny_pure ?_)
    refine wpAny_bind (PySem.W.kdu_collect (A := X.A.in1) (kdl_raw hsys hx hdt) (I.ok.hd hc) ho (by omega) fun h' tk acc hkeep it => ?_)
    have eb : acc.toList = (ks'.map fun x => x.2.1).map Value.ref := by
      rw [List.map_map]
      have hl : acc.toList.length = ks'.length := by rw [Array.length_toList, it.1]; exact l1
      apply List.ext_getElem?
      intro j
      rw [List.getElem?_map]
      cases hj : acc.toList[j]? with
      | none =>
        have h1 := List.getElem?_eq_none_iff.mp hj
        rw [List.getElem?_eq_none (by omega)]
        rfl
      | some v =>
        obtain ⟨en, hen, hv⟩ := it.2 j v (by rw [← Array.getElem?_toList]; exact hj)
        have qe := entry_at hes j
        rw [hen] at qe
        cases hb : ks'[j]? with
        | none =>
          rw [hb] at qe
          exact nomatch (show some en = none from qe)
        | some b =>
          rw [hb] at qe
          have e2 : en = entryOfKey (tupleKind (mixKind X.prog X.w)) b := Option.some.inj qe
          rw [hv, e2]
          rfl
    have hbl : acc.toList.length ≤ sizeLine := by rw [eb, List.length_map, List.length_map]; omega
    refine wpAny_bind (wpAny_newList ?_ hbl)
    have I1 : Inv X pins σ H { s with heap := h', toks := tk } := I.kept hkeep
    have hoL : (h'.push (seqObj "list" acc.toList.toArray 0)).get? h'.objs.size = some (seqObj "list" acc.toList.toArray 0) := Heap.get?_push_size _ rfl
    show wpAny _ _ _ _ _ { s with heap := h'.push (seqObj "list" acc.toList.toArray 0), toks := tk }
    have ik := isKeys_of pr
    generalize hbs : (ks'.map fun x => x.2.1) = bs at eb ik
    obtain ⟨E1, E2⟩ := keys_each (K := X.K) (h2 := h'.push (seqObj "list" acc.toList.toArray 0)) I.hok (fun b o e => Heap.get?_push_of_some _ (hkeep b o e)) ik
    rw [← eb] at E1 E2
    have hbk : bs.length = ks.length := by rw [← hbs, List.length_map]; omega
    have hsn : (((bs.map V.ref).zip (ks.map fun p => kTD p.1)).map Prod.snd) = ks.map fun p => kTD p.1 := by
      rw [List.map_snd_zip]
      simp [hbk]
    refine wpAny_bind (wpAny_holding (wpAny_mono (PySem.W.list_sort_data (s := { s with heap := h'.push (seqObj "list" acc.toList.toArray 0), toks := tk }) (A := X.A.in1) (enc := Prod.snd) (Q := fun u s' => u = .none ∧ EP X pins σ Q (.ref h'.objs.size) s') hoL E1 (E2.mono fun _ _ ⟨as, r, n⟩ => ⟨as, r, n _⟩) ?_ ?_ ?_ ?_ ?_) (fun u s' hq => ?_) fun _ _ e => e))
    · rw [hsn]; exact fun d hd d' hd' => hal d hd d' hd'
    · rw [hsn]
      rcases hk with hk | hk
      · refine .inl fun d hd => ?_
        have := hk d hd
        split at this
        · exact ⟨_, _, rfl⟩
        · cases this
      · refine .inr fun d hd => ?_
        have := hk d hd
        exact ⟨fun z => (by rw [z] at this; simp at this), fun xs z => (by rw [z] at this; simp at this)⟩
    · rw [← List.length_map (f := Prod.snd), hsn]; exact hL
    · intro b hb
      have : b.2 ∈ ks.map fun p => kTD p.1 := by rw [← hsn]; exact List.mem_map_of_mem hb
      have := hdp _ this
      show X.A.in1.units + 1 + _ < cLine
      have e9 : X.A.in1.units = X.A.units + 1 := rfl
      omega
    · intro out ho2 hE
      refine ⟨rfl, ?_⟩
      obtain ⟨w1, w2⟩ := vals_each hE
      have rp := rp_of_zip w2
      rw [sort_snd, hsn] at rp
      obtain ⟨ep', he'⟩ := PyProof.Rows.sortedHeap_at (vs := acc.toList) (out := List.toArray out) hoL
      have hlen : (List.map Prod.fst (((bs.map V.ref).zip (ks.map fun p => kTD p.1)).mergeSort (PySem.W.dataLe false Prod.snd))).length ≤ sizeLine := by
        rw [rp.length, List.length_mergeSort]
        exact hL
      refine EP_lock ⟨.ref _, upd H h'.objs.size (.lst _), I1.laid (t' := tk) (fun b u e => ?_) (Nat.le_refl _) ⟨hlen, out, ep', w1, he'⟩, rfl, new_list (I1.hok.fresh (Nat.le_refl _)) rp q⟩
      have hb : b < h'.objs.size := Heap.lt_size e
      rw [PyProof.Rows.sortedHeap_old (Nat.ne_of_lt hb) (by rw [size_push']; exact Nat.lt_succ_of_lt hb)]
      exact Heap.get?_push_of_some _ e
    · exact wpAny_pure ⟨_, rfl, hq.2⟩
  · cases he
theorem alike_mem {ds : List PyData} (h : minable ds = true) : PyData.plainAll ds = true ∧ PySem.W.AlikeAll ds ∧ PyData.depthAll ds ≤ 30 := by
  unfold minable at h
  simp only [Bool.and_eq_true, List.all_eq_true, decide_eq_true_eq] at h
  obtain ⟨⟨⟨h1, h2⟩, h3⟩, h4⟩ := h
  refine ⟨h1, ⟨fun x hx y hy => h2 x hx y hy, fun x hx z => ?_⟩, h4⟩
  have := h3 x hx
  rw [z] at this
  simp [isNone] at this
theorem call_minD {x : V} {d : PyData} {ds : List PyData} {us : List Value} {Q : VK} {pins : List (Addr × Obj)} {σ : L2.St} {H : Hp} {s : Shared} (hc : X.calm = true) (hu : X.A.units + 64 < cLine) (I : Inv X pins σ H s) (r : Vals [x] us) (hx : Rb X.K H x (.list (d :: ds)))
    (hm : minable (d :: ds) = true) (q : ∀ v, Rp X.K H v (PySem.W.minD d ds) → Q v H) : wpAny (model X.prog X.w) X.A (call (.builtin "min") us) (EP X pins σ Q) X.xe s := by
  obtain ⟨hp, hal, hdp⟩ := alike_mem hm
  obtain ⟨a, vs, rfl, h1, r1⟩ := hx.list
  rw [Vals.ref1 r]
  obtain ⟨its, as, rv, hl, hr⟩ := Rb.readsL I h1 r1 hp
  refine PySem.W.min_list_data (I.ok.hd hc) hl (by simpa using hr) hal (by omega) fun i v h' tk bs hv rd hk => ?_
  have I2 : Inv X pins σ H { s with heap := h', toks := tk } := I.kept hk
  have hv2 : its[i]? = some v := by simpa using hv
  obtain ⟨w, hw, rw'⟩ := paired_get' rv hv2
  obtain ⟨e, he, re⟩ := r1.get hw
  have pe : e.plain = true := PySem.W.plain_mem hp (List.mem_of_getElem? he)
  obtain ⟨as2, rd2⟩ := Rb.reads I2 (.rp re) rw' pe
  have ee := PySem.SeqAt.plain_unique _ _ _ _ _ pe rd2 rd
  subst ee
  exact ⟨w, H, I2, rw', q w re⟩
where
  paired_get' {vs : List V} {us : List Value} (r : Vals vs us) {i : Nat} {u : Value} (h : us[i]? = some u) : ∃ v, vs[i]? = some v ∧ RelV v u := by
    have hl := r.length
    obtain ⟨hi, _⟩ := List.getElem?_eq_some_iff.mp h
    have hv : vs[i]? = some (vs[i]'(by omega)) := List.getElem?_eq_getElem (by omega)
    obtain ⟨u', h1, h2⟩ := r.get hv
    rw [h] at h1
    cases h1
    exact ⟨_, hv, h2⟩
theorem pairs_ok {K : PySem.W.Frag} {H : Hp} : ∀ {ds : List PyData} {ps : List (Int × PyData)} {vs : List V}, pairsI ds = some ps → RpAll K H vs ds → ∃ (as : List Addr) (ws : List V), vs = as.map V.ref ∧ Paired (fun p (kv : Key × V) => SqT K H p [kV kv.1, kv.2]) as ((ps.zip ws).map fun q => (Sum.inl q.1.1, q.2)) ∧ RpAll K H ws (ps.map (·.2))
  | [], ps, _, e, .nil => by
    cases e
    exact ⟨[], [], rfl, .nil, .nil⟩
  | d :: ds, ps, _, e, .cons h r => by
    match d, h, e with
    | .tuple [.int i, x], h, e =>
      simp only [pairsI, Option.map_eq_some_iff] at e
      obtain ⟨ps', e1, rfl⟩ := e
      obtain ⟨as, ws, rfl, hp, hr⟩ := pairs_ok e1 r
      cases h with
      | tup ht ht2 =>
        rename_i a xs
        cases ht2 with
        | cons h1 h2 =>
          cases h2 with
          | cons h2 h3 =>
            cases h3
            cases h1
            exact ⟨a :: as, _ :: ws, rfl, .cons (SqT.of ht) hp, .cons h2 hr⟩
theorem merge_asc : ∀ (kvs acc : List (Key × V)), (kvs.map (·.1)).Nodup → (∀ p ∈ acc, p.1 ∉ kvs.map (·.1)) → mergeK acc kvs = acc ++ kvs
  | [], acc, _, _ => by simp [mergeK]
  | p :: r, acc, hn, ha => by
    rw [List.map_cons] at hn ha
    obtain ⟨n1, n2⟩ := List.nodup_cons.mp hn
    have e : putK acc p.1 p.2 = acc ++ [p] := by
      unfold putK
      rw [if_neg]
      rw [List.any_eq_true]
      rintro ⟨q, hq, e⟩
      exact ha q hq (by rw [of_decide_eq_true e]; exact List.mem_cons_self)
    show mergeK (putK acc p.1 p.2) r = _
    rw [e, merge_asc r (acc ++ [p]) n2 fun q hq h => ?_, List.append_assoc]
    · rfl
    · rcases List.mem_append.mp hq with hq | hq
      · exact ha q hq (List.mem_cons_of_mem _ h)
      · simp at hq
        subst hq
        exact n1 h
theorem new_dct {K : PySem.W.Frag} {H : Hp} {Q : VK} {p : Addr} {kvs : List (Key × V)} {ds : List PyData} (hp : H p = none) (r : RpAll K H (kvs.map (·.2)) ds) (q : ∀ v H', Same H H' → Rp K H' v (.dict ((kvs.map fun p => kD p.1).zip ds)) → Q v H') : LK Q (.ref p) (upd H p (.dK kvs)) := by
  refine .inr ⟨p, _, upd_same, True.intro, fun od => ?_⟩
  rw [upd_upd]
  exact q _ _ (same_new hp) (.dK upd_same (r.mono (.of (same_new hp))))
theorem new_dctT {K : PySem.W.Frag} {H : Hp} {Q : VK} {p : Addr} {kvs : List (List Key × V)} {ds : List PyData} (hp : H p = none) (r : RpAll K H (kvs.map (·.2)) ds) (q : ∀ v H', Same H H' → Rp K H' v (.dict ((kvs.map fun p => kTD p.1).zip ds)) → Q v H') : LK Q (.ref p) (upd H p (.dT kvs)) := by
  refine .inr ⟨p, _, upd_same, True.intro, fun od => ?_⟩
  rw [upd_upd]
  exact q _ _ (same_new hp) (.dT upd_same (r.mono (.of (same_new hp))))
theorem pairsT_ok {K : PySem.W.Frag} {H : Hp} : ∀ {ds : List PyData} {ps : List (PyData × PyData)} {vs : List V}, pairsT ds = some ps → RpAll K H vs ds →
    ∃ (as : List Addr) (kvs : List (List Key × V)), vs = as.map V.ref ∧ Paired (fun p (kv : List Key × V) => ∃ b, SqT K H p [.ref b, kv.2] ∧ H b = some (.tup (kv.1.map kV))) as kvs ∧ RpAll K H (kvs.map (·.2)) (ps.map (·.2)) ∧ kvs.map (fun p => kTD p.1) = ps.map (·.1)
  | [], ps, _, e, .nil => by
    cases e
    exact ⟨[], [], rfl, .nil, .nil, rfl⟩
  | d :: ds, ps, _, e, .cons h r => by
    match d, h, e with
    | .tuple [k, x], h, e =>
      unfold pairsT at e
      split at e
      · rename_i hk
        rw [Option.map_eq_some_iff] at e
        obtain ⟨ps', e1, rfl⟩ := e
        obtain ⟨as, kvs, rfl, hp, hr, hm⟩ := pairsT_ok e1 r
        obtain ⟨ks, rfl⟩ := isKeyT_of hk
        cases h with
        | tup ht ht2 =>
          rename_i a xs
          cases ht2 with
          | cons h1 h2 =>
            cases h2 with
            | cons h2 h3 =>
              cases h3
              rename_i v1 v2
              obtain ⟨b, rfl, hb⟩ := rb_kTD (.rp h1)
              exact ⟨a :: as, (ks, v2) :: kvs, rfl, .cons ⟨b, SqT.of ht, hb⟩ hp, .cons h2 hr, by simp [hm]⟩
      · cases e
theorem zip_self : ∀ ps : List (PyData × PyData), (ps.map (·.1)).zip (ps.map (·.2)) = ps
  | [] => rfl
  | p :: ps => congrArg (p :: ·) (zip_self ps)
theorem zip_second : ∀ {ps : List (Int × PyData)} {ws : List V}, ws.length = ps.length → ((ps.zip ws).map fun q => ((Sum.inl q.1.1 : Key), q.2)).map (·.2) = ws ∧ ((ps.zip ws).map fun q => ((Sum.inl q.1.1 : Key), q.2)).map (·.1) = ps.map (fun p => Sum.inl p.1) ∧ ((ps.zip ws).map fun q => ((Sum.inl q.1.1 : Key), q.2)).map (fun p => kD p.1) = ps.map (fun p => PyData.int p.1)
  | [], [], _ => ⟨rfl, rfl, rfl⟩
  | p :: ps, w :: ws, h => by
    obtain ⟨a, b, c⟩ := zip_second (ps := ps) (ws := ws) (by simpa using h)
    exact ⟨congrArg (w :: ·) a, congrArg ((Sum.inl p.1 : Key) :: ·) b, congrArg (PyData.int p.1 :: ·) c⟩
theorem zip_maps : ∀ ps : List (Int × PyData), (ps.map fun p => PyData.int p.1).zip (ps.map (·.2)) = ps.map fun p => (.int p.1, p.2)
  | [] => rfl
  | p :: ps => congrArg (((PyData.int p.1, p.2) : PyData × PyData) :: ·) (zip_maps ps)
theorem call_bi (hc : X.calm = true) (hu : X.A.units + 64 < cLine) (f : Bi) : CallR X (biV f) (rBlt X.K f) := by
  intro pins s σ H xs us Q I r h
  obtain ⟨ds, d, hx, e, q⟩ := h
  unfold dBlt at e
  split at e
  · obtain ⟨v, rfl, h1⟩ := hx.one
    exact call_lenD' I r h1 e fun v => q v H (Same.refl _)
  · cases e
    obtain ⟨v, rfl, h1⟩ := hx.one
    exact call_abs pins s σ H _ us Q I r ⟨_, by rw [h1.int], q _ _ (Same.refl _) (.int _)⟩
  · split at e
    · rename_i hm
      cases e
      obtain ⟨v, rfl, h1⟩ := hx.one
      exact call_minD hc hu I r h1 hm fun v => q v H (Same.refl _)
    · cases e
  · split at e
    · rename_i n ns hi
      cases e
      obtain ⟨v, rfl, h1⟩ := hx.one
      obtain ⟨a, vs, rfl, h2, r2⟩ := h1.list
      obtain ⟨ev, _⟩ := r2.ints hi
      subst ev
      obtain ⟨m1, m2, m3⟩ := foldl_max_mem ns n
      refine cr_max hc pins s σ H _ us Q I r ⟨a, n :: ns, rfl, h2, by simp, fun m hm hall => ?_⟩
      have em : m = ns.foldl max n := by
        refine Int.le_antisymm ?_ ?_
        · rcases List.mem_cons.mp hm with rfl | hm
          · exact m2
          · exact m3 m hm
        · rcases m1 with m1 | m1
          · rw [m1]; exact hall n List.mem_cons_self
          · exact hall _ (List.mem_cons_of_mem _ m1)
      rw [em]
      exact q _ _ (Same.refl _) (.int _)
    · cases e
  · cases e
    obtain ⟨v, w, rfl, h1, h2⟩ := hx.two
    exact call_min2 hc pins s σ H _ us Q I r ⟨_, _, by rw [h1.int, h2.int], q _ _ (Same.refl _) (.int _)⟩
  · cases e
    obtain ⟨v, w, rfl, h1, h2⟩ := hx.two
    exact call_max2 hc pins s σ H _ us Q I r ⟨_, _, by rw [h1.int, h2.int], q _ _ (Same.refl _) (.int _)⟩
  · split at e
    · rename_i ns hi
      cases e
      obtain ⟨v, rfl, h1⟩ := hx.one
      obtain ⟨a, vs, rfl, h2, r2⟩ := h1.list
      obtain ⟨ev, _⟩ := r2.ints hi
      subst ev
      exact cr_sum hc pins s σ H _ us Q I r ⟨a, ns, rfl, h2, q _ _ (Same.refl _) (.int _)⟩
    · cases e
  · split at e
    · rename_i bs hi
      cases e
      obtain ⟨v, rfl, h1⟩ := hx.one
      obtain ⟨a, vs, rfl, h2, r2⟩ := h1.list
      obtain ⟨ev, _⟩ := r2.bls hi
      subst ev
      exact cr_any hc pins s σ H _ us Q I r ⟨a, bs, rfl, h2, q _ _ (Same.refl _) (.bl _)⟩
    · cases e
  · split at e
    · rename_i bs hi
      cases e
      obtain ⟨v, rfl, h1⟩ := hx.one
      obtain ⟨a, vs, rfl, h2, r2⟩ := h1.list
      obtain ⟨ev, _⟩ := r2.bls hi
      subst ev
      exact cr_all hc pins s σ H _ us Q I r ⟨a, bs, rfl, h2, q _ _ (Same.refl _) (.bl _)⟩
    · cases e
  · obtain ⟨v, rfl, h1⟩ := hx.one
    exact call_sortedD hu I r h1 e q
  · rename_i kvs
    obtain ⟨v, rfl, h1⟩ := hx.one
    have hdict := h1.dict
    split at e
    · rename_i hk
      rcases hdict with ⟨a, ks, ds, rfl, hd, r1, rfl⟩ | ⟨a, ks, ds, rfl, hd, r1, rfl⟩
      · cases ks with
        | nil =>
          refine thn (call_sortedDI hc pins s σ H _ us (LK Q) I r ⟨a, [], [], rfl, hd, rfl, by decide, fun ys p pm pw hp => ?_⟩) fun _ _ z => EP_lock z
          have e2 : ys = [] := List.Perm.eq_nil pm
          subst e2
          have ed : d = .list [] := by
            have e3 : dSorted ([] : List PyData) = .ok d := e
            unfold dSorted at e3
            split at e3
            · cases e3; rw [List.mergeSort_nil]
            · cases e3
          subst ed
          exact new_list hp .nil q
        | cons p ks =>
          cases r1 with
          | cons h r1 =>
            have ha := hk.1
            rw [List.map_cons, List.zip_cons_cons, List.all_cons, Bool.and_eq_true] at ha
            have := ha.1
            cases h9 : p.1 <;> rw [h9] at this <;> cases this
      · have hl := r1.length
        have ez : ((ks.map fun p => kTD p.1).zip ds).map (·.1) = ks.map fun p => kTD p.1 := by
          show List.map Prod.fst _ = _
          rw [List.map_fst_zip]
          simp only [List.length_map] at hl ⊢
          omega
        rw [ez] at e
        exact call_sortedDT hc hu I r hd e q
    · split at e
      · rename_i hk
        rcases hdict with ⟨a, ks, ds, rfl, hd, r1, rfl⟩ | ⟨a, ks, ds, rfl, hd, r1, rfl⟩
        · have hl := r1.length
          have ez : ((ks.map fun p => kD p.1).zip ds).map (·.1) = ks.map fun p => kD p.1 := by
            show List.map Prod.fst _ = _
            rw [List.map_fst_zip]
            simp only [List.length_map] at hl ⊢
            omega
          have toI : ∀ {ks : List (Key × V)} {ds : List PyData}, ks.length = ds.length → (((ks.map fun p => kD p.1).zip ds).all fun p => isInt p.1) = true → ∃ ns : List Int, ks.map (·.1) = ns.map Sum.inl := by
            intro ks
            induction ks with
            | nil => intro _ _ _; exact ⟨[], rfl⟩
            | cons p ks ih =>
              intro ds hl ha
              cases ds with
              | nil => simp at hl
              | cons d ds =>
                rw [List.map_cons, List.zip_cons_cons, List.all_cons, Bool.and_eq_true] at ha
                obtain ⟨ns, en⟩ := ih (by simpa using hl) ha.2
                have h1 := ha.1
                cases h9 : p.1 with
                | inl i => exact ⟨i :: ns, by rw [List.map_cons, en, h9]; rfl⟩
                | inr x => rw [h9] at h1; cases h1
          obtain ⟨ns, en⟩ := toI (by simpa using hl) hk.1
          have ek : (ks.map fun p => kD p.1) = ns.map PyData.int := by
            have e3 : (ks.map fun p => kD p.1) = (ks.map (·.1)).map kD := by rw [List.map_map]; rfl
            rw [e3, en, List.map_map]
            rfl
          have hn : ns.length < 64 := by
            have e4 := congrArg List.length ek
            have e5 := hk.2
            simp only [List.length_map, List.length_zip] at e4 e5 hl
            omega
          rw [ez, ek] at e
          refine thn (call_sortedDI hc pins s σ H _ us (LK Q) I r ⟨a, ks, ns, rfl, hd, en, hn, fun ys p pm pw hp => ?_⟩) fun _ _ z => EP_lock z
          have e2 := PySem.W.os_sorted_mergeSort pm pw
          have ed : d = .list ((ns.map PyData.int).mergeSort (PySem.W.dataLe false id)) := by
            unfold dSorted at e
            split at e
            · cases e; rfl
            · cases e
          rw [← PySem.W.sort_maps PyData.int (r := fun a b => decide (a ≤ b)) fun a _ b _ => le_int_d a b, ← e2] at ed
          subst ed
          exact new_list hp (rpAll_ints ys) q
        · cases ks with
          | nil =>
            have := hk.1
            rename_i hk0
            exact absurd ⟨rfl, by simp⟩ hk0
          | cons p ks =>
            cases r1 with
            | cons h r1 =>
              have ha := hk.1
              rw [List.map_cons, List.zip_cons_cons, List.all_cons, Bool.and_eq_true] at ha
              cases ha.1
      · cases e
  · cases e
    obtain ⟨v, rfl, h1⟩ := hx.one
    obtain ⟨a, vs, rfl, h2, r2⟩ := h1.list
    exact call_tuple_of pins s σ H _ us Q I r ⟨a, vs, rfl, .inl ⟨h2, fun l hl => new_tup hl r2 q⟩⟩
  · cases e
    obtain ⟨v, rfl, h1⟩ := hx.one
    obtain ⟨a, vs, rfl, h2, r2⟩ := h1.tuple'
    exact call_tuple_of pins s σ H _ us Q I r ⟨a, vs, rfl, .inr ⟨SqT.of h2, q _ _ (Same.refl _) (.tup h2 r2)⟩⟩
  · cases e
    obtain ⟨v, rfl, h1⟩ := hx.one
    obtain ⟨a, vs, rfl, h2, r2⟩ := h1.list
    exact thn (call_list_of pins s σ H _ us (LK Q) I r ⟨a, vs, rfl, .inl h2, fun l hl => new_list hl r2 q⟩) fun _ _ z => EP_lock z
  · cases e
    obtain ⟨v, rfl, h1⟩ := hx.one
    obtain ⟨a, vs, rfl, h2, r2⟩ := h1.tuple
    exact thn (call_list_of pins s σ H _ us (LK Q) I r ⟨a, vs, rfl, .inr h2, fun l hl => new_list hl r2 q⟩) fun _ _ z => EP_lock z
  · cases e
    obtain ⟨v, rfl, h1⟩ := hx.one
    exact call_int1 pins s σ H _ us Q I r (.inl ⟨_, by rw [h1.int], q _ _ (Same.refl _) (.int _)⟩)
  · split at e
    · rename_i hn
      split at e
      · rename_i hz
        cases e
        obtain ⟨v, rfl, h1⟩ := hx.one
        exact call_int_str pins s σ H _ us Q I r ⟨_, _, by rw [h1.str], hn, hz, q _ _ (Same.refl _) (.int _)⟩
      · cases e
    · cases e
  · split at e
    · rename_i hz
      cases e
      obtain ⟨v, rfl, h1⟩ := hx.one
      exact call_str_int pins s σ H _ us Q I r ⟨_, by rw [h1.int], hz, q _ _ (Same.refl _) (.str _)⟩
    · cases e
  · unfold dDct at e
    split at e
    · rename_i ps hp
      split at e
      · rename_i hz
        cases e
        obtain ⟨v, rfl, h1⟩ := hx.one
        obtain ⟨a, vs, rfl, h2, r2⟩ := h1.list
        obtain ⟨as, ws, rfl, hpr, hr⟩ := pairs_ok hp r2
        have lw : ws.length = ps.length := by rw [RpAll.length hr, List.length_map]
        obtain ⟨z1, z2, z3⟩ := zip_second lw
        refine thn (call_dictP hc pins s σ H _ us (LK Q) I r ⟨a, as, _, rfl, h2, hpr, fun p hn => ?_⟩) fun _ _ z => EP_lock z
        have nd : (((ps.zip ws).map fun q => ((Sum.inl q.1.1 : Key), q.2)).map (·.1)).Nodup := by
          rw [z2]
          have pw := List.pairwise_map.mp (of_decide_eq_true hz.1)
          refine List.pairwise_map.mpr (pw.imp fun {a b} h e => ?_)
          have := Sum.inl.inj e
          omega
        have me := merge_asc _ [] nd (by simp)
        rw [List.nil_append] at me
        rw [me]
        refine new_dct (ds := ps.map (·.2)) hn (by rw [z1]; exact hr) fun v H' sm rp => ?_
        rw [z3, zip_maps] at rp
        exact q v H' sm rp
      · cases e
    · split at e
      · rename_i ps hp
        split at e
        · rename_i hz
          cases e
          obtain ⟨v, rfl, h1⟩ := hx.one
          obtain ⟨a, vs, rfl, h2, r2⟩ := h1.list
          obtain ⟨as, kvs, rfl, hpr, hr, hm⟩ := pairsT_ok hp r2
          refine thn (call_dictT hc hu pins s σ H _ us (LK Q) I r ⟨a, as, _, rfl, h2, hpr, fun p hn => ?_⟩) fun _ _ z => EP_lock z
          have nd : (kvs.map (·.1)).Nodup := by
            have pw := of_decide_eq_true hz.1
            rw [← hm] at pw
            refine List.pairwise_map.mpr ((List.pairwise_map.mp pw).imp fun {a b} h e => ?_)
            rw [e, eqv_kTD] at h
            simp at h
          have me := mergeT_nd _ [] nd (by simp)
          rw [List.nil_append] at me
          rw [me]
          refine new_dctT (ds := ps.map (·.2)) hn hr fun v H' sm rp => ?_
          rw [hm, zip_self] at rp
          exact q v H' sm rp
        · cases e
      · cases e
  · cases e
end
end Cg

set_option maxHeartbeats 4000000
namespace Cg
open PySem PySem.Spec PyProof.Rows L2
/-! ### 11. sorted(set(xs)), len(set(xs)) -/
/-- a new set's object -/
abbrev nSet (w : World) : Obj := { cls := .type "set", dict := none, data := .set #[] 0 (.fresh 0 0 (!w.params.followText "set-order")) }
section
variable {P : Program} {w : World} {A : Around} {E : Value → Shared → Prop} {s : Shared}
theorem call_setL {l : Addr} {items : Array Value} (ns : List Int) {Q : Value → Shared → Prop} (hh : A.handled = none) (hl : s.heap.IsList l items) (hit : IntsAre items.toList ns) (few : ns.length + 1 < scanBound)
    (fin : ∀ (h' : Heap) (tk c : Nat), SetR w h' s.heap.objs.size (fun j => decide (j ∈ ns)) c → c ≤ ns.length → (∀ b o, s.heap.get? b = some o → h'.get? b = some o) → Q (.ref s.heap.objs.size) { s with heap := h', toks := tk }) :
    wpAny (model P w) A (call (.type "set") [.ref l]) Q E s := by
  have sz : items.size = ns.length := by
    have q := IntsAre.length hit
    rwa [Array.length_toList] at q
  obtain ⟨c, tl, hmro⟩ := F.called_set.mro
  have hmade := F.called_set.made
  have hsub := F.called_set.sub
  refine wpAny_call (codeAny_of_tree (show wpAny _ _ (callAny (.type "set") _) _ _ _ from ?_))
  refine wpAny_pure ⟨Code.quiet_builtin _ (by decide +kernel), codeAny_builtin F.entry_type_call ?_⟩
  rw [Around.under_plain (weight_type_call_type "set" [.ref l] []) rfl]
  have n1 := F.called_set.notType
  have n2 := F.called_set.canCreate
  have n3 := F.typeCall_set_1 (.ref l)
  repeat (any_goals (first | assumption | wp_step))
  refine codeAny_mono (code_set_led1 (.ref l) (E := E) (Q₁ := fun obj s₁ => obj = .ref s.heap.objs.size ∧ s₁ = { s with heap := s.heap.push (nSet w) }) ⟨rfl, rfl⟩) fun r s₁ hr => ?_
  cases r with
  | error e => exact hr
  | ok fl => cases fl with
    | ret obj =>
      obtain ⟨rfl, rfl⟩ := hr
      have hS : (s.heap.push (nSet w)).get? s.heap.objs.size = some (nSet w) := Heap.get?_push_size _ rfl
      have hT : Shared.TypeIs { s with heap := s.heap.push (nSet w) } (.ref s.heap.objs.size) "set" := ⟨_, hS, rfl⟩
      have i1 := F.called_set.init.lookup
      have i2 := F.called_set.init.bind (.ref s.heap.objs.size)
      repeat (any_goals (first | assumption | wp_step))
      refine codeAny_mono (codeAny_call_builtin (R := wants (fun r s₂ => r = .none ∧ ∃ h' tk c, s₂ = { s with heap := h', toks := tk } ∧ SetR w h' s.heap.objs.size (fun j => decide (j ∈ ns)) c ∧ c ≤ ns.length ∧
          (∀ b o, s.heap.get? b = some o → h'.get? b = some o)) E) F.called_set.init.plain F.entry_set_init (check_set_init_1 hT ?_)) fun r₂ s₂ hr₂ => ?_
      · obtain ⟨⟨ocls, odict, odata, oslots⟩, hol, hcl, nl, hdl⟩ := hl
        simp only at hcl hdl
        subst hcl hdl
        have g1 : (s.heap.push (nSet w)).get? l = some { cls := .type "list", dict := odict, data := .seq items nl, slots := oslots } := Heap.get?_push_of_some _ hol
        have b1 := F.sub_list_set
        have b2 := F.sub_list_frozenset
        have b3 : (Value.type "list" == Value.type "dict") = false := by decide
        have hl1 : (s.heap.push (nSet w)).IsList l items := ⟨_, g1, rfl, nl, rfl⟩
        unfold Builtin.«set.__init__» noKeywords Builtin.Frozenset.updateFrom
        generalize hPI : pyIter = PI
        wp_walk
        subst hPI
        refine wpAny_pyIter_list hl1 (wpAny_bind (wpAny_runValue ?_))
        have lt1 : l < s.heap.objs.size := Heap.lt_size hol
        have h3 : A.in1.in1.in1.handled = none := by simp [hh]
        have z1 : (s.heap.push (nSet w)).objs.size = s.heap.objs.size + 1 := Heap.size_push ..
        have neI : l ≠ (s.heap.push (nSet w)).objs.size := by rw [z1]; exact Nat.ne_of_lt (Nat.lt_succ_of_lt lt1)
        have nS : s.heap.objs.size ∉ [(s.heap.push (nSet w)).objs.size, l] := by
          rw [z1]
          simp only [List.mem_cons, List.not_mem_nil, or_false, not_or]
          exact ⟨Nat.ne_of_lt (Nat.lt_succ_self _), Nat.ne_of_gt lt1⟩
        have val : ∀ (i : Nat) (v : Value), items[i]? = some v → ∃ k t, ns[i]? = some k ∧ v = .int k t := fun i v hv => by
          have hi : i < ns.length := by rw [← sz]; exact (Array.getElem?_eq_some_iff.mp hv).1
          obtain ⟨t, e⟩ := PyProof.Rows.IntsAre.int_at hit i v (by rw [Array.getElem?_toList]; exact hv)
          refine ⟨ns[i], t, List.getElem?_eq_getElem hi, ?_⟩
          rw [e, List.getD_eq_getElem?_getD, List.getElem?_eq_getElem hi] <;> rfl
        refine set_update_ints ((Walks.list h3 _ l neI items).toS) s.heap.objs.size nS ns sz few val (items.size - 0) 0 _ (by omega) (Nat.zero_le _) ⟨⟨_, Heap.get?_push_size _ rfl, rfl, rfl⟩, (hl1.push _)⟩ ?hS0 ?hR
        case hS0 =>
          have g2 : ((s.heap.push (nSet w)).push { cls := .type "list_iterator", data := .fields #[.ref l, .int 0 0] }).get? s.heap.objs.size = some (nSet w) := Heap.get?_push_of_some _ hS
          exact ⟨0, Nat.le_refl 0, setR_new_at g2⟩
        case hR =>
          rintro ⟨h', g2, d', tk', os'⟩ c' hm hc' hS'
          have eg : g2 = s.gens := hm.gens
          have ed : d' = s.drawn := hm.drawn
          have eo : os' = s.os := hm.os
          subst eg ed eo
          refine wpAny_pure (show wpAny _ _ (ret Value.none) _ _ _ from ?_)
          rw [sz] at hc'
          refine wpAny_pure ⟨rfl, h', tk', c', rfl, hS', hc', fun b o e => ?_⟩
          have hb0 : b < s.heap.objs.size := Heap.lt_size e
          have hb2 : b ≠ (s.heap.push (nSet w)).objs.size := by rw [z1]; exact Nat.ne_of_lt (Nat.lt_succ_of_lt hb0)
          refine hm.heap b o ?_ (Heap.get?_push_of_some _ (Heap.get?_push_of_some _ e))
          simp only [List.mem_cons, List.not_mem_nil, or_false, not_or]
          exact ⟨Nat.ne_of_lt hb0, hb2⟩
      · cases r₂ with
        | error e => exact hr₂
        | ok fl₂ => cases fl₂ with
          | ret r =>
            obtain ⟨rfl, h', tk, c', rfl, hS', hc', hk'⟩ := hr₂
            repeat (any_goals (first | assumption | wp_step))
            exact fin _ _ _ hS' hc' hk'
          | _ => exact hr₂.elim
    | _ => exact hr.elim
end
/-- a set of the ints ns, tracked -/
def SetIO (w : World) (a : Addr) (ns : List Int) : HO := .ext fun h => ∃ c, c ≤ ns.length ∧ SetR w h a (fun j => decide (j ∈ ns)) c
section
variable {X : Cx}
theorem cr_setI (hc : X.calm = true) : CallR X (.type "set") (fun xs H Q => ∃ (l : Addr) (ns : List Int), xs = [V.ref l] ∧ SqL X.K H l (ns.map V.int) ∧ ns.length < 64 ∧ ∀ a, H a = none → Q (.ref a) (upd H a (SetIO X.w a ns))) := by
  intro pins s σ H xs us Q I r h
  obtain ⟨l, ns, rfl, hl, hf, q⟩ := h
  rw [Vals.ref1 r]
  obtain ⟨its, rv, pl, hz⟩ := I.list hl
  refine call_setL (P := X.prog) (w := X.w) ns (I.ok.hd hc) pl.isList (by simpa using rv.ints) (by unfold scanBound; omega) fun h' tk c R hc' k => ?_
  refine ⟨.ref s.heap.objs.size, upd H s.heap.objs.size (SetIO X.w s.heap.objs.size ns), I.laid (t' := tk) k (Nat.le_refl _) ?_, rfl, q _ (I.hok.fresh (Nat.le_refl _))⟩
  refine ⟨⟨c, hc', R⟩, ?_, fun h1 h2 ⟨c2, hc2, R2⟩ kk => ⟨c2, hc2, R2.at kk⟩⟩
  obtain ⟨o, _, _, _, ho, _⟩ := id R
  exact ⟨o, ho⟩
theorem cr_sortedI (hc : X.calm = true) : CallR X (.builtin "sorted") (fun xs H Q => ∃ (a : Addr) (ns : List Int), xs = [V.ref a] ∧ H a = some (SetIO X.w a ns) ∧ ns.length < 64 ∧
    ∀ (ns' : List Int) (p : Addr), ns'.Pairwise (· < ·) → (∀ k, k ∈ ns' ↔ k ∈ ns) → H p = none → Q (.ref p) (upd H p (.lst (ns'.map V.int)))) := by
  intro pins s σ H vs us Q I r h
  obtain ⟨a, ns, rfl, ha, hf, q⟩ := h
  obtain ⟨c, hc', R⟩ : ∃ c, c ≤ ns.length ∧ SetR X.w s.heap a (fun j => decide (j ∈ ns)) c := (I.hok a _ ha).1
  rw [Vals.ref1 r]
  refine sorted_set R (I.ok.hd hc) (by omega) fun s' p out d ns' k g o hp hg hout pw mem hn => ?_
  have hno : H p = none := I.hok.fresh hp
  have hlen : (ns'.map V.int).length ≤ sizeLine := by rw [List.length_map, sizeLine_eq]; omega
  have J : Inv X pins σ (upd H p (.lst (ns'.map V.int))) { s with heap := s'.heap, gens := s'.gens, drawn := s'.drawn, toks := s'.toks } :=
    I.call (ch := []) (Un.laid k hp hno) (I.hok.laid k hp ⟨hlen, out.toList, d, vals_of_ints hout, hg⟩) (by rw [g]; exact I.bare) (fun _ z => nomatch z)
  have e : s' = { s with heap := s'.heap, gens := s'.gens, drawn := s'.drawn, toks := s'.toks } := by
    cases s'
    cases s
    cases o
    rfl
  rw [e]
  exact ⟨.ref p, _, J, rfl, q ns' p pw (fun j => by rw [mem j]; simp) hno⟩
end
end Cg

set_option maxHeartbeats 4000000
namespace Cg
open PySem PySem.Spec PyProof.Rows L2
/-! the data of it -/
theorem eqv_int (a b : Int) : PyData.eqv (.int a) (.int b) = decide (a = b) := PySem.W.Datum.eqv (α := Int) a b
theorem eqv_ii (a b : Int × Int) : PyData.eqv (.tuple [.int a.1, .int a.2]) (.tuple [.int b.1, .int b.2]) = decide (a = b) := PySem.W.Datum.eqv (α := Int × Int) a b
/-- without what came before -/
def dd {α : Type} [DecidableEq α] (l : List α) : List α := l.foldl (fun acc d => if d ∈ acc then acc else acc ++ [d]) []
theorem ddup_map {α : Type} [DecidableEq α] (f : α → PyData) (hf : ∀ a b, PyData.eqv (f a) (f b) = decide (a = b)) (l : List α) : ddup (l.map f) = (dd l).map f := by
  have gen : ∀ (l acc : List α), (l.map f).foldl (fun acc d => if (acc.any fun y => PyData.eqv y d) = true then acc else acc ++ [d]) (acc.map f) = (l.foldl (fun acc d => if d ∈ acc then acc else acc ++ [d]) acc).map f := by
    intro l
    induction l with
    | nil => intro acc; rfl
    | cons x xs ih =>
      intro acc
      have e : ((acc.map f).any fun y => PyData.eqv y (f x)) = decide (x ∈ acc) := by
        rw [Bool.eq_iff_iff, List.any_eq_true, decide_eq_true_eq]
        constructor
        · rintro ⟨y, hy, h⟩
          obtain ⟨z, hz, rfl⟩ := List.mem_map.mp hy
          rw [hf] at h
          rw [← of_decide_eq_true h]
          exact hz
        · intro h
          exact ⟨f x, List.mem_map_of_mem h, by rw [hf]; exact decide_eq_true rfl⟩
      rw [List.map_cons, List.foldl_cons, List.foldl_cons, e]
      by_cases h : x ∈ acc
      · rw [if_pos (decide_eq_true h), if_pos h]
        exact ih acc
      · rw [if_neg (by simpa using h), if_neg h]
        have := ih (acc ++ [x])
        rw [List.map_append] at this
        exact this
  exact gen l []
theorem dd_ok {α : Type} [DecidableEq α] (l : List α) : (dd l).Nodup ∧ ∀ x, x ∈ dd l ↔ x ∈ l := by
  have gen : ∀ (l acc : List α), acc.Nodup → (l.foldl (fun acc d => if d ∈ acc then acc else acc ++ [d]) acc).Nodup ∧ ∀ x, x ∈ l.foldl (fun acc d => if d ∈ acc then acc else acc ++ [d]) acc ↔ x ∈ acc ∨ x ∈ l := by
    intro l
    induction l with
    | nil => intro acc h; exact ⟨h, fun x => by simp⟩
    | cons y ys ih =>
      intro acc h
      rw [List.foldl_cons]
      by_cases hy : y ∈ acc
      · rw [if_pos hy]
        obtain ⟨h1, h2⟩ := ih acc h
        refine ⟨h1, fun x => ?_⟩
        rw [h2 x, List.mem_cons]
        constructor
        · rintro (q | q)
          · exact .inl q
          · exact .inr (.inr q)
        · rintro (q | rfl | q)
          · exact .inl q
          · exact .inl hy
          · exact .inr q
      · rw [if_neg hy]
        have hn : (acc ++ [y]).Nodup := by
          rw [List.nodup_append]
          refine ⟨h, by simp, fun a ha b hb => ?_⟩
          rw [List.mem_singleton] at hb
          subst hb
          rintro rfl
          exact hy ha
        obtain ⟨h1, h2⟩ := ih (acc ++ [y]) hn
        refine ⟨h1, fun x => ?_⟩
        rw [h2 x, List.mem_append, List.mem_singleton, List.mem_cons]
        constructor
        · rintro ((q | q) | q)
          · exact .inl q
          · exact .inr (.inl q)
          · exact .inr (.inr q)
        · rintro (q | q | q)
          · exact .inl (.inl q)
          · exact .inl (.inr q)
          · exact .inr q
  obtain ⟨h1, h2⟩ := gen l [] List.nodup_nil
  exact ⟨h1, fun x => (h2 x).trans (by simp)⟩
/-- the one sorted list of the set's items -/
theorem sset_uniq {α : Type} [DecidableEq α] (f : α → PyData) (le : α → α → Bool) (hle : ∀ a b, le a b = PySem.W.dataLe false id (f a) (f b)) (tot : ∀ a b, (le a b || le b a) = true) (tr : ∀ a b c, le a b = true → le b c = true → le a c = true)
    (anti : ∀ a b, le a b = true → le b a = true → a = b) (hf : ∀ a b, PyData.eqv (f a) (f b) = decide (a = b)) {l m : List α} (hm : m.Pairwise fun a b => le a b = true) (hn : m.Nodup) (mem : ∀ x, x ∈ m ↔ x ∈ l) :
    (ddup (l.map f)).mergeSort (PySem.W.dataLe false id) = m.map f ∧ m = (dd l).mergeSort le := by
  obtain ⟨d1, d2⟩ := dd_ok l
  have p1 : ((dd l).mergeSort le).Perm (dd l) := List.mergeSort_perm _ _
  have p2 : m.Perm (dd l) := (List.perm_ext_iff_of_nodup hn d1).mpr fun x => by rw [mem x, d2 x]
  have e : m = (dd l).mergeSort le := List.Perm.eq_of_pairwise (le := fun a b => le a b = true) (fun a b _ _ h1 h2 => anti a b h1 h2) hm (List.pairwise_mergeSort tr tot _) (p2.trans p1.symm)
  refine ⟨?_, e⟩
  rw [ddup_map f hf, e, ← PySem.W.sort_maps f (r := le) fun a _ b _ => hle a b]
section
variable {X : Cx}
theorem allI_map : ∀ {ds : List PyData} {ns : List Int}, allI ds = some ns → ds = ns.map PyData.int
  | [], ns, e => by simp [allI] at e; subst e; rfl
  | .int i :: r, ns, e => by
    simp only [allI, Option.map_eq_some_iff] at e
    obtain ⟨ns', e1, rfl⟩ := e
    rw [allI_map e1]
    rfl
  | .none :: r, ns, e => by simp [allI] at e
  | .bool _ :: r, ns, e => by simp [allI] at e
  | .str _ :: r, ns, e => by simp [allI] at e
  | .list _ :: r, ns, e => by simp [allI] at e
  | .tuple _ :: r, ns, e => by simp [allI] at e
  | .dict _ :: r, ns, e => by simp [allI] at e
def pairT (p : Int × Int) : PyData := .tuple [.int p.1, .int p.2]
theorem allT_map : ∀ {ds : List PyData} {nss : List (List Int)}, allT ds = some nss → ds = nss.map fun ns => PyData.tuple (ns.map .int)
  | [], nss, e => by simp [allT] at e; subst e; rfl
  | .tuple xs :: r, nss, e => by
    simp only [allT] at e
    split at e
    · rename_i n ns h1 h2
      cases e
      rw [allT_map h2, allI_map h1]
      rfl
    · cases e
  | .none :: r, ns, e => by simp [allT] at e
  | .bool _ :: r, ns, e => by simp [allT] at e
  | .str _ :: r, ns, e => by simp [allT] at e
  | .list _ :: r, ns, e => by simp [allT] at e
  | .int _ :: r, ns, e => by simp [allT] at e
  | .dict _ :: r, ns, e => by simp [allT] at e
theorem le_pair_d (a b : Int × Int) : decide (a.1 < b.1 ∨ (a.1 = b.1 ∧ a.2 ≤ b.2)) = PySem.W.dataLe false id (pairT a) (pairT b) := by
  have := congrFun (congrFun (PySem.W.dataLe_ii (fun x : Int × Int => x.1) (fun x : Int × Int => x.2)) a) b
  exact this.symm
end
/-! the two built-ins one after the other -/
/-- a set made of the list ds stands at a -/
def SetIs (K : PySem.W.Frag) (P : Program) (w : World) (H : Hp) (a : Addr) (ds : List PyData) : Prop :=
  (∃ ns : List Int, ds = ns.map .int ∧ H a = some (SetIO w a ns) ∧ ns.length < 64) ∨
  (∃ (ps : List (Int × Int)) (L : List (Addr × List Int)), ds = ps.map pairT ∧ H a = some (SetTO P w a L) ∧ (∀ p ∈ L, H p.1 = some (.tup (p.2.map V.int)) ∧ p.2.length = 2 ∧ TS.Bd 1000 p.2) ∧ ∀ q : Int × Int, q ∈ ps ↔ [q.1, q.2] ∈ L.map (·.2))
theorem setable_ok {ds : List PyData} (h : setable ds = true) : ds.length < 64 ∧ ((∃ ns : List Int, ds = ns.map .int) ∨ ∃ ps : List (Int × Int), ds = ps.map pairT ∧ ∀ p ∈ ps, TS.Bd 1000 [p.1, p.2]) := by
  unfold setable at h
  rw [Bool.and_eq_true, decide_eq_true_eq, Bool.or_eq_true] at h
  refine ⟨h.1, ?_⟩
  rcases h.2 with h2 | h2
  · obtain ⟨ns, hn⟩ := Option.isSome_iff_exists.mp h2
    exact .inl ⟨ns, allI_map hn⟩
  · split at h2
    · rename_i nss hn
      right
      have e := allT_map hn
      have all : ∀ (nss : List (List Int)), (nss.all fun ns => decide (ns.length = 2) && ns.all fun n => decide (0 ≤ n) && decide (n < 1000)) = true → ∃ ps : List (Int × Int), nss = ps.map (fun p => [p.1, p.2]) ∧ ∀ p ∈ ps, TS.Bd 1000 [p.1, p.2] := by
        intro nss
        induction nss with
        | nil => intro _; exact ⟨[], rfl, fun p hp => (nomatch hp)⟩
        | cons ns r ih =>
          intro hh
          rw [List.all_cons, Bool.and_eq_true] at hh
          obtain ⟨ps, e1, e2⟩ := ih hh.2
          have h3 := hh.1
          rw [Bool.and_eq_true, decide_eq_true_eq] at h3
          match ns, h3 with
          | [x, y], h3 =>
            have h4 := h3.2
            simp only [List.all_cons, List.all_nil, Bool.and_true, Bool.and_eq_true, decide_eq_true_eq] at h4
            refine ⟨(x, y) :: ps, by rw [e1]; rfl, fun p hp => ?_⟩
            rcases List.mem_cons.mp hp with rfl | hp
            · intro m hm
              have hm2 : m = x ∨ m = y := by simpa using hm
              rcases hm2 with rfl | rfl
              · exact h4.1
              · exact h4.2
            · exact e2 p hp
          | [], h3 => exact absurd h3.1 (by decide)
          | [_], h3 => exact absurd h3.1 (by simp)
          | _ :: _ :: _ :: _, h3 => exact absurd h3.1 (by simp)
      obtain ⟨ps, e1, e2⟩ := all nss h2
      refine ⟨ps, ?_, e2⟩
      rw [e, e1, List.map_map]
      rfl
    · cases h2
theorem pairs_at {K : PySem.W.Frag} {H : Hp} : ∀ {ps : List (Int × Int)} {vs : List V}, RpAll K H vs (ps.map pairT) → ∃ ks : List (Addr × List Int), vs = ks.map (fun k => V.ref k.1) ∧ ks.map (·.2) = ps.map (fun p => [p.1, p.2]) ∧ ∀ k ∈ ks, H k.1 = some (.tup (k.2.map V.int))
  | [], _, .nil => ⟨[], rfl, rfl, fun k hk => (nomatch hk)⟩
  | p :: ps, _, .cons h r => by
    obtain ⟨ks, e1, e2, e3⟩ := pairs_at r
    cases h with
    | tup ht ht2 =>
      rename_i a xs
      obtain ⟨ex, _⟩ := ht2.ints (ns := [p.1, p.2]) rfl
      subst ex
      refine ⟨(a, [p.1, p.2]) :: ks, by rw [e1]; rfl, by rw [List.map_cons, List.map_cons, e2], fun k hk => ?_⟩
      rcases List.mem_cons.mp hk with rfl | hk
      · exact ht
      · exact e3 k hk
section
variable {X : Cx}
theorem cr_setD (hc : X.calm = true) (hu : X.A.units + 64 < cLine) : CallR X (.type "set") (fun xs H Q => ∃ x ds, xs = [x] ∧ Rb X.K H x (.list ds) ∧ setable ds = true ∧ ∀ a H', Same H H' → SetIs X.K X.prog X.w H' a ds → Q (.ref a) H') := by
  intro pins s σ H xs us Q I r h
  obtain ⟨x, ds, rfl, hx, hs, q⟩ := h
  obtain ⟨few, hs⟩ := setable_ok hs
  obtain ⟨a, vs, rfl, h1, r1⟩ := hx.list
  rcases hs with ⟨ns, rfl⟩ | ⟨ps, rfl, hb⟩
  · have ai : allI (ns.map PyData.int) = some ns := by
      have gen : ∀ ns : List Int, allI (ns.map PyData.int) = some ns := by
        intro ns
        induction ns with
        | nil => rfl
        | cons n ns ih => simp [allI, ih]
      exact gen ns
    obtain ⟨ev, _⟩ := r1.ints ai
    subst ev
    rw [List.length_map] at few
    exact cr_setI hc pins s σ H _ us Q I r ⟨a, ns, rfl, h1, few, fun b hb => q b _ (same_new hb) (.inl ⟨ns, rfl, upd_same, few⟩)⟩
  · have hbd := hb
    obtain ⟨ks, e1, e2, e3⟩ := pairs_at r1
    subst e1
    have hl : ks.length < 64 := by
      have := congrArg List.length e2
      simp only [List.length_map] at this few
      omega
    refine cr_setOfT hc hu pins s σ H _ us Q I r ⟨a, ks, rfl, h1, fun k hk => SqT.of (e3 k hk), hl, fun b L hb hL1 hL2 => q b _ (same_new hb) (.inr ⟨ps, L, rfl, upd_same, fun p hp => ?_, fun z => ?_⟩)⟩
    · have hk := hL1 p hp
      have hm : p.2 ∈ ps.map (fun p => [p.1, p.2]) := by rw [← e2]; exact List.mem_map_of_mem hk
      obtain ⟨z, hz, ez⟩ := List.mem_map.mp hm
      refine ⟨same_new hb _ _ (e3 p hk), by rw [← ez]; rfl, by rw [← ez]; exact hbd z hz⟩
    · constructor
      · intro hz
        have hm : [z.1, z.2] ∈ ks.map (·.2) := by rw [e2]; exact List.mem_map.mpr ⟨z, hz, rfl⟩
        obtain ⟨k, hk, ek⟩ := List.mem_map.mp hm
        rw [← ek]
        exact hL2 k hk
      · intro hz
        obtain ⟨p, hp, ep⟩ := List.mem_map.mp hz
        have hm : p.2 ∈ ps.map (fun p => [p.1, p.2]) := by rw [← e2]; exact List.mem_map_of_mem (hL1 p hp)
        obtain ⟨z', hz', ez⟩ := List.mem_map.mp hm
        have e9 : [z'.1, z'.2] = [z.1, z.2] := by rw [ez]; exact ep
        have e10 : z' = z := by
          obtain ⟨a1, a2⟩ := z
          obtain ⟨b1, b2⟩ := z'
          simp only [List.cons.injEq, and_true] at e9
          rw [e9.1, e9.2]
        rw [← e10]
        exact hz'
theorem code_pairB (x y : Int) : TS.code 1000 [x, y] = x * 1000 + y := by
  have e1 : (1000 : Int) ^ 1 = 1000 := by decide
  have e0 : (1000 : Int) ^ 0 = 1 := by decide
  show x * (1000 : Int) ^ 1 + (y * (1000 : Int) ^ 0 + 0) = x * 1000 + y
  rw [e1, e0]
  omega
theorem cr_sortedSet (hc : X.calm = true) : CallR X (.builtin "sorted") (fun xs H Q => ∃ a ds d, xs = [V.ref a] ∧ SetIs X.K X.prog X.w H a ds ∧ dSorted (ddup ds) = .ok d ∧ ∀ v H', Same H H' → Rp X.K H' v d → Q v H') := by
  intro pins s σ H xs us Q I r h
  obtain ⟨a, ds, d, rfl, hs, he, q⟩ := h
  have hd : d = .list ((ddup ds).mergeSort (PySem.W.dataLe false id)) := by
    unfold dSorted at he
    split at he
    · cases he; rfl
    · cases he
  subst hd
  rcases hs with ⟨ns, rfl, ha, few⟩ | ⟨ps, L, rfl, ha, hL, mem⟩
  · refine thn (cr_sortedI hc pins s σ H _ us (LK Q) I r ⟨a, ns, rfl, ha, few, fun ns' p pw mem hp => ?_⟩) fun _ _ z => EP_lock z
    have u := (sset_uniq PyData.int (fun a b => decide (a ≤ b)) le_int_d (fun a b => by rw [Bool.or_eq_true, decide_eq_true_eq, decide_eq_true_eq]; exact Int.le_total a b) (fun a b c h1 h2 => by rw [decide_eq_true_eq] at *; exact Int.le_trans h1 h2)
      (fun a b h1 h2 => by rw [decide_eq_true_eq] at *; exact Int.le_antisymm h1 h2) eqv_int (l := ns) (m := ns') (pw.imp fun h => decide_eq_true (Int.le_of_lt h)) (pw.imp fun h => Int.ne_of_lt h) mem).1
    rw [u] at q
    exact new_list hp (rpAll_ints ns') q
  · refine thn (cr_sortedT hc pins s σ H _ us (LK Q) I r ⟨a, L, 2, 1000, rfl, ha, fun p hp => SqT.of (hL p hp).1, by decide, fun p hp => (hL p hp).2, fun L' p pm nd hl pw hp => ?_⟩) fun _ _ z => EP_lock z
    have hL' : ∀ z ∈ L', H z.1 = some (.tup (z.2.map V.int)) ∧ z.2.length = 2 ∧ TS.Bd 1000 z.2 := fun z hz => hL z (pm.mem_iff.mp hz)
    have toP : ∀ (L' : List (Addr × List Int)), (∀ z ∈ L', H z.1 = some (.tup (z.2.map V.int)) ∧ z.2.length = 2 ∧ TS.Bd 1000 z.2) → ∃ qs : List (Int × Int), L'.map (·.2) = qs.map (fun p => [p.1, p.2]) ∧ RpAll X.K H (L'.map fun q => V.ref q.1) (qs.map pairT) := by
      intro L'
      induction L' with
      | nil => intro _; exact ⟨[], rfl, .nil⟩
      | cons z r ih =>
        intro hz
        obtain ⟨qs, e1, e2⟩ := ih fun y hy => hz y (List.mem_cons_of_mem _ hy)
        obtain ⟨z1, z2⟩ := z
        obtain ⟨g1, g2, g3⟩ := hz _ List.mem_cons_self
        match z2, g1, g2 with
        | [x, y], g1, g2 => exact ⟨(x, y) :: qs, by rw [List.map_cons, List.map_cons, e1], .cons (.tup g1 (.cons (.int x) (.cons (.int y) .nil))) e2⟩
        | [], _, g2 => cases g2
        | [_], _, g2 => simp at g2
        | _ :: _ :: _ :: _, _, g2 => simp at g2
    obtain ⟨qs, e1, e2⟩ := toP L' hL'
    have inj : ∀ p q : Int × Int, [p.1, p.2] = [q.1, q.2] → p = q := fun p q e => by
      obtain ⟨a1, a2⟩ := p
      obtain ⟨b1, b2⟩ := q
      simp only [List.cons.injEq, and_true] at e
      rw [e.1, e.2]
    have memq : ∀ z, z ∈ qs ↔ z ∈ ps := fun z => by
      rw [mem z, ← (pm.map (·.2)).mem_iff, e1]
      constructor
      · intro hz; exact List.mem_map.mpr ⟨z, hz, rfl⟩
      · intro hz
        obtain ⟨y, hy, ey⟩ := List.mem_map.mp hz
        rw [← inj y z ey]
        exact hy
    have ndq : qs.Nodup := by
      rw [e1] at nd
      exact List.Pairwise.of_map (fun p : Int × Int => [p.1, p.2]) (fun a b h e => h (by rw [e])) nd
    have bd : ∀ z ∈ qs, TS.Bd 1000 [z.1, z.2] := fun z hz => by
      have : [z.1, z.2] ∈ L'.map (·.2) := by rw [e1]; exact List.mem_map.mpr ⟨z, hz, rfl⟩
      obtain ⟨y, hy, ey⟩ := List.mem_map.mp this
      rw [← ey]
      exact (hL' y hy).2.2
    have pw2 : qs.Pairwise fun a b => TS.code 1000 [a.1, a.2] ≤ TS.code 1000 [b.1, b.2] := by
      have h1 : (L'.map (·.2)).Pairwise fun a b => TS.code 1000 a ≤ TS.code 1000 b := List.pairwise_map.mpr pw
      rw [e1] at h1
      exact List.pairwise_map (R := fun a b => TS.code 1000 a ≤ TS.code 1000 b) (f := fun p : Int × Int => [p.1, p.2]) |>.mp h1
    have pw3 : qs.Pairwise fun a b => (decide (a.1 < b.1 ∨ (a.1 = b.1 ∧ a.2 ≤ b.2))) = true := by
      refine List.Pairwise.imp_of_mem (fun {x y} hx hy h => ?_) pw2
      rw [code_pairB, code_pairB] at h
      have b1 := bd x hx x.2 (by simp)
      have b2 := bd y hy y.2 (by simp)
      rw [decide_eq_true_eq]
      omega
    have u := (sset_uniq pairT (fun a b => decide (a.1 < b.1 ∨ (a.1 = b.1 ∧ a.2 ≤ b.2))) le_pair_d (fun a b => by rw [Bool.or_eq_true, decide_eq_true_eq, decide_eq_true_eq]; omega) (fun a b c h1 h2 => by rw [decide_eq_true_eq] at *; omega)
      (fun a b h1 h2 => by rw [decide_eq_true_eq] at *; exact Prod.ext (by omega) (by omega)) eqv_ii (l := ps) (m := qs) pw3 ndq memq).1
    rw [u] at q
    exact new_list hp e2 q
/-- sorted(set(e)); len(set(e)) -/
theorem pe_sset {e : Expr} {te : TE} {p p2 q pos : Pos} (hc : X.calm = true) (hu : X.A.units + 64 < cLine) (g1 : Gl X "sorted") (m1 : X.mg "sorted" = none) (g2 : Gl X "set") (m2 : X.mg "set" = none) (he : PE X e te) (hs : starEach [e] X.env = [(false, eval e X.env)])
    (mono : ∀ σ H (Q Q' : VK), (∀ v H', Q v H' → Q' v H') → te σ H Q → te σ H Q') :
    PE X (.Call (.Name "sorted" p) [.Call (.Name "set" p2) [e] [] q] [] pos) (fun σ H Q => te σ H fun v H1 => ∃ ds d', Rb X.K H1 v (.list ds) ∧ dSset (.list ds) = .ok d' ∧ ∀ w H', Same H1 H' → Rp X.K H' w d' → Q w H') := by
  have inner := pe_callTy (pos := q) (p := p2) (cr_setD hc hu) g2 m2 (by decide +kernel) (pa_cons he pa_nil (hs := hs)) (he := hs)
  refine pe_imp (pe_callB (cr_sortedSet hc) g1 m1 (by decide +kernel) (pa_cons inner pa_nil)) fun σ H Q h => ?_
  refine mono _ _ _ _ (fun v H1 h => ?_) h
  obtain ⟨ds, d', hr, hd, q⟩ := h
  unfold dSset at hd
  simp only at hd
  split at hd
  · rename_i hs
    exact ⟨v, ds, rfl, hr, hs, fun a H' sm si => ⟨a, ds, d', rfl, si, hd, fun w H2 s2 => q w H2 (sm.trans s2)⟩⟩
  · cases hd
theorem dd_length {α : Type} [DecidableEq α] {l m : List α} (hn : m.Nodup) (mem : ∀ x, x ∈ m ↔ x ∈ l) : m.length = (dd l).length := by
  obtain ⟨d1, d2⟩ := dd_ok l
  exact ((List.perm_ext_iff_of_nodup hn d1).mpr fun x => by rw [mem x, d2 x]).length_eq
theorem cr_lenSet (hc : X.calm = true) : CallR X (.builtin "len") (fun xs H Q => ∃ a ds, xs = [V.ref a] ∧ SetIs X.K X.prog X.w H a ds ∧ (allT ds).isSome = true ∧ Q (.int (ddup ds).length) H) := by
  intro pins s σ H xs us Q I r h
  obtain ⟨a, ds, rfl, hs, hT, q⟩ := h
  rw [Vals.ref1 r]
  rcases hs with ⟨ns, rfl, ha, few⟩ | ⟨ps, L, rfl, ha, hL, mem⟩
  · have e0 : ns = [] := by
      cases ns with
      | nil => rfl
      | cons n ns => simp [allT] at hT
    subst e0
    obtain ⟨c, hc', R⟩ : ∃ c, c ≤ ([] : List Int).length ∧ SetR X.w s.heap a (fun j => decide (j ∈ ([] : List Int))) c := (I.hok a _ ha).1
    have ec : c = 0 := Nat.le_zero.mp hc'
    subst ec
    obtain ⟨o, es, ep, t, ho, hex, hd, _, _, _, _, hf, hn, _⟩ := R
    exact call_len_set ho hex hd hf (by rw [hn]; decide) ⟨.int 0, H, I.tok _, ⟨_, by rw [hn]; rfl⟩, q⟩
  · have R : SetT0 X.prog X.w s.heap a L := (I.hok a _ ha).1
    obtain ⟨es, ep, t, ⟨o, ho, hex, hd⟩, hrows, tab, nd, pl, led, room, fewL⟩ := R.ex
    have sz : es.size = L.length := by
      have h := congrArg List.length hrows
      unfold rowsOf at h
      rw [Array.length_toList, List.length_map] at h
      exact h
    have el : L.length = (ddup (ps.map pairT)).length := by
      rw [ddup_map pairT eqv_ii, List.length_map]
      have n2 : (L.map (·.2)).length = ((dd ps).map fun p => [p.1, p.2]).length := by
        have d := dd_ok ps
        have inj : ∀ p q : Int × Int, [p.1, p.2] = [q.1, q.2] → p = q := fun p q e => by
          obtain ⟨a1, a2⟩ := p
          obtain ⟨b1, b2⟩ := q
          simp only [List.cons.injEq, and_true] at e
          rw [e.1, e.2]
        refine ((List.perm_ext_iff_of_nodup nd (List.pairwise_map.mpr (d.1.imp fun {x y} h e => h (inj _ _ e)))).mpr fun x => ?_).length_eq
        constructor
        · intro hx
          obtain ⟨p, hp, rfl⟩ := List.mem_map.mp hx
          obtain ⟨x2, h2⟩ := hL p hp
          match hq : p.2, h2 with
          | [u, v], _ => exact List.mem_map.mpr ⟨(u, v), (d.2 _).mpr ((mem (u, v)).mpr (by rw [← hq]; exact hx)), rfl⟩
          | [], h2 => exact absurd h2.1 (by simp)
          | [_], h2 => exact absurd h2.1 (by simp)
          | _ :: _ :: _ :: _, h2 => exact absurd h2.1 (by simp)
        · intro hx
          obtain ⟨p, hp, rfl⟩ := List.mem_map.mp hx
          exact (mem p).mp ((d.2 p).mp hp)
      rw [List.length_map, List.length_map] at n2
      exact n2
    rw [← el] at q
    have hf : t.fits es.size = true := by
      have tsz := tab.sz
      rw [List.length_map] at tsz
      unfold SetTable.fits SetTable.fill
      rw [tab.dm, Bool.and_eq_true, beq_iff_eq, decide_eq_true_eq]
      show t.place.size = es.size ∧ t.place.size + 0 ≤ t.mask
      omega
    exact call_len_set ho hex hd hf (by rw [sz]; omega) ⟨.int L.length, H, I.tok _, ⟨_, by rw [sz]⟩, q⟩
/-- len(set(e)) -/
theorem pe_lset {e : Expr} {te : TE} {p p2 q pos : Pos} (hc : X.calm = true) (hu : X.A.units + 64 < cLine) (g1 : Gl X "len") (m1 : X.mg "len" = none) (g2 : Gl X "set") (m2 : X.mg "set" = none) (he : PE X e te) (hs : starEach [e] X.env = [(false, eval e X.env)])
    (mono : ∀ σ H (Q Q' : VK), (∀ v H', Q v H' → Q' v H') → te σ H Q → te σ H Q') :
    PE X (.Call (.Name "len" p) [.Call (.Name "set" p2) [e] [] q] [] pos) (fun σ H Q => te σ H fun v H1 => ∃ ds d', Rb X.K H1 v (.list ds) ∧ dLset (.list ds) = .ok d' ∧ ∀ w H', Same H1 H' → Rp X.K H' w d' → Q w H') := by
  have inner := pe_callTy (pos := q) (p := p2) (cr_setD hc hu) g2 m2 (by decide +kernel) (pa_cons he pa_nil (hs := hs)) (he := hs)
  refine pe_imp (pe_callB (cr_lenSet hc) g1 m1 (by decide +kernel) (pa_cons inner pa_nil)) fun σ H Q h => ?_
  refine mono _ _ _ _ (fun v H1 h => ?_) h
  obtain ⟨ds, d', hr, hd, q⟩ := h
  unfold dLset at hd
  simp only at hd
  split at hd
  · rename_i hs
    cases hd
    exact ⟨v, ds, rfl, hr, hs.1, fun a H' sm si => ⟨a, ds, rfl, si, hs.2, q _ H' sm (.int _)⟩⟩
  · cases hd
end
end Cg

set_option maxHeartbeats 1000000
namespace Cg
open PySem PySem.Spec PyProof.Rows L2
/-! ### 10b. exceptions that leave a block -/
theorem noteFrame_eq {e : Value} {env env' : Env} (h : env.frame = env'.frame) : noteFrame e env = noteFrame e env' := by
  unfold PySem.noteFrame PySem.frameOf
  rw [h]
/-- an exception in the air of X, noted at the frame L or not -/
def XH (X : Cx) (L : Addr) (E : XK) (u : Value) (s' : Shared) : Prop :=
  ∃ (a : Addr) (B : Heap) (sI : Shared) (pins : List (Addr × Obj)) (σ : L2.St) (H : Hp) (cls : Value) (d : Option Addr),
    u = .ref a ∧ Inv X pins σ H sI ∧ (∀ b o, sI.heap.get? b = some o → b ∉ frs X.stack → B.get? b = some o) ∧ sI.heap.UpToSlots s'.heap ∧
      Sky B X.stack a (Zc cls d) L s'.heap ∧ H a = none ∧ s'.os = sI.os ∧ AllBare s'.gens ∧ E cls d H
/-- what a context does with exceptions: none comes, or each is taken at the frame L -/
def Pas (X : Cx) (E : XK) : Prop := (∀ cls d H, ¬ E cls d H) ∨ ∃ L env0 outer0, X.stack = env0 :: outer0 ∧ env0.frame = some L ∧ X.env.frame = some L ∧ ∀ u s', XH X L E u s' → X.xe u s'
theorem Pas.none {X : Cx} {E : XK} (h : ∀ cls d H, ¬ E cls d H) : Pas X E := .inl h
theorem Pas.takes {X : Cx} {E : XK} (hs : X.stack = X.env :: X.outer) (hf : X.env.frame = some X.env.locals) (tk : Takes X (fun cls d _ H => E cls d H)) : Pas X E := .inr ⟨X.env.locals, X.env, X.outer, hs, hf, hf, fun u s' x => tk u s' x⟩
theorem XH.call {X : Cx} {E : XK} {L : Addr} {pins : List (Addr × Obj)} {σ : L2.St} {H : Hp} {s s' : Shared} {u : Value} (I : Inv X pins σ H s) (c : L2.CX X.prog X.w X.stack H s E u s') : XH X L E u s' := by
  obtain ⟨a, B, H', cls, d, rfl, fl, hok, ub, na, os, ag, hE⟩ := c
  obtain ⟨G, g1, g2⟩ := restrict s'.heap fun b => (B.get? b).isSome || decide (b ∈ frs X.stack)
  have st : B.StaysIn s'.heap := fl.1
  have gB : ∀ b o, B.get? b = some o → G.get? b = some o := fun b o e => by
    rw [g1 b (by simp [e])]
    exact st b o e
  have gF : ∀ b, b ∈ frs X.stack → G.get? b = s'.heap.get? b := fun b hb => g1 b (by simp [hb])
  have og : ∀ b o, G.get? b = some o → s'.heap.get? b = some o ∧ ((B.get? b).isSome = true ∨ b ∈ frs X.stack) := fun b o e => by
    cases q : ((B.get? b).isSome || decide (b ∈ frs X.stack)) with
    | false => rw [g2 b q] at e; cases e
    | true =>
      rw [g1 b q] at e
      exact ⟨e, by simpa [Bool.or_eq_true] using q⟩
  refine ⟨a, B, { s with heap := G, gens := s'.gens, drawn := s'.drawn, toks := s'.toks }, pins, σ, H', cls, d, rfl, ?_, fun b o e hb => ?_, Heap.UpToSlots.of_keeps fun b o e => (og b o e).1, .inr (.inl fl), na, os, ag, hE⟩
  · refine I.call (ch := []) ⟨fun b o e n hb _ => gB b o (ub.keep b o e n hb), fun b o e n hb _ => ?_, fun b o e n _ => ub.free b o e n, fun b o e _ => ?_, ub.tups, ub.frzs, ub.tbls⟩ (hok.kept gB) ag (fun _ z => nomatch z)
    · obtain ⟨sl, q⟩ := ub.slot b o e hb
      exact ⟨sl, by rw [gF b hb]; exact q⟩
    · by_cases hb : b ∈ frs X.stack
      · obtain ⟨sl, q⟩ := ub.slot b o e hb
        exact ⟨_, by rw [gF b hb]; exact q⟩
      · obtain ⟨o', q⟩ := ub.there b o e hb
        exact ⟨o', gB b o' q⟩
  · obtain ⟨e', h⟩ := og b o e
    rcases h with h | h
    · obtain ⟨o', q⟩ := Option.isSome_iff_exists.mp h
      have z := st b o' q
      rw [e'] at z; cases z
      exact q
    · exact absurd h hb
theorem Pas.calls {X : Cx} {E : XK} (h : Pas X E) : Passes (L2.CX X.prog X.w) X E := by
  intro pins σ H s e s' I c
  rcases h with h | ⟨L, env0, outer0, h1, h2, h3, h4⟩
  · obtain ⟨a, B, H', cls, d, _, _, _, _, _, _, _, hE⟩ := c
    exact absurd hE (h _ _ _)
  · exact h4 _ _ (.call I c)
theorem frames_of {h h' B B' : Heap} : ∀ {l : List Env}, h.FunFrames B l → (∀ L ∈ frs l, B'.get? L = none ∧ h'.get? L = h.get? L) → h'.FunFrames B' l
  | [], _, _ => trivial
  | env :: l, h, hn => by
    obtain ⟨hk, ⟨L, o, hf, hb, ho, hd⟩, hr⟩ := h
    have z := hn L (List.mem_filterMap.mpr ⟨env, List.mem_cons_self, hf⟩)
    exact ⟨hk, ⟨L, o, hf, z.1, z.2.trans ho, hd⟩, frames_of hr fun b hb => by
      obtain ⟨e, he, q⟩ := List.mem_filterMap.mp hb
      exact hn b (List.mem_filterMap.mpr ⟨e, List.mem_cons_of_mem _ he, q⟩)⟩
/-- the context of a comprehension's block, with a wish for its exceptions -/
abbrev Cx.blkx (X : Cx) (s : Shared) (H : Hp) (scope : Scope) (cenv : Env) (fp : List Addr) (xe : Value → Shared → Prop) : Cx := { X with s_0 := s, H_0 := H, env := cenv, outer := X.stack, ex := fp, fn := fun x => scope.names.lookup x == some .cell, pn := [], xe := xe }
/-- an exception of the block: noted at the def's frame, the block's names gone, out of the comprehension -/
theorem fails_blk {X : Cx} {E : XK} {pins : List (Addr × Obj)} {σ : L2.St} {H3 : Hp} {s3 : Shared} {scope : Scope} {fp : List Addr} {L : Addr} {env0 : Env} {outer0 : List Env} {ce : Env} {xe : Value → Shared → Prop}
    (hst : X.stack = env0 :: outer0) (hf0 : env0.frame = some L) (hfX : X.env.frame = some L) (tk : ∀ u s', XH X L E u s' → X.xe u s') (I3 : Inv X pins σ H3 s3) (hcF : ce.frame = X.env.frame) (hcL : ce.locals = s3.heap.objs.size)
    (f3 : ∀ b ∈ fp, FpOk X pins H3 b ∧ b < s3.heap.objs.size) (u : Value) (s' : Shared) (x : XH (Cx.blkx X s3 H3 scope ce fp xe) L E u s') :
    notedBy (model X.prog X.w) X.A ce (fun e s'' => CompFails (model X.prog X.w) X.A X.xe ce e s'') u s' := by
  obtain ⟨a, B, sI, pins', σ', H', cls, d, rfl, I', nb, up, sky, na, os, ag, w⟩ := x
  have nb : ∀ b o, sI.heap.get? b = some o → b ∉ frs X.stack → B.get? b = some o := nb
  have sky : Sky B (env0 :: outer0) a (Zc cls d) L s'.heap := by rw [← hst]; exact sky
  have hfr : X.A.frames = some (env0 :: outer0) := by rw [I3.ok.frames, hst]
  have nC : H' ce.locals = none := I'.free
  have I7 : Inv X pins σ H' sI := I3.call' (ch := fp) I'.os I'.base I'.hok I'.bare fun b hb => ⟨(f3 b hb).1.2.2.2.1, (f3 b hb).1.2.1, (f3 b hb).1.2.2.2.2.1, (f3 b hb).1.2.2.2.2.2⟩
  have fC : FpOk X pins H' ce.locals := by rw [hcL] at nC ⊢; exact I3.fpOk (Nat.le_refl _) nC
  have cst : ce.locals ∉ frs X.stack := fun hm => by
    obtain ⟨_, o, ho, _⟩ := I'.ok.funs.mem hm
    have h1 : s3.heap.get? ce.locals = some o := ho
    have h2 := Heap.lt_size h1
    rw [hcL] at h2
    exact absurd h2 (Nat.lt_irrefl _)
  have fin : ∀ h1, HandSPX.HeldZ B (env0 :: outer0) a (Zc cls d) L h1 → s'.heap.UpToSlots h1 → CompFails (model X.prog X.w) X.A X.xe ce (.ref a) { s' with heap := h1 } := fun h1 hh up1 => by
    have J := I'.landed (s' := { s' with heap := h1 }) nb hh.1 (up.trans up1) os ag
    obtain ⟨m, hn, _⟩ := J.loc
    have hn : h1.Ns ce.locals m := hn
    refine ⟨m, hn, fun h' m' hn' sb => ?_⟩
    obtain ⟨k1, k2, k3, oe, vs, T, oT, ts, he, hz, hd, h1', hnT, hTe, hT, hdT, h3⟩ := id hh
    obtain ⟨oC, es, ep, hoC, hdC, _⟩ := hn
    have aC : a ≠ ce.locals := fun z => by rw [z, hoC] at he; cases he; rw [hdC] at hd; cases hd
    have TC : T ≠ ce.locals := fun z => by rw [z, hoC] at hT; cases hT; rw [hdC] at hdT; cases hdT
    have hB : ∀ b o, (PySem.W.hideAll B [ce.locals]).get? b = some o → B.get? b = some o ∧ b ≠ ce.locals := fun b o e => ⟨PySem.W.of_hideAll _ e, fun z => by rw [z, PySem.W.hideAll_none _ List.mem_cons_self] at e; cases e⟩
    have hBn : ∀ b, B.get? b = none → (PySem.W.hideAll B [ce.locals]).get? b = none := fun b e => by
      cases q : (PySem.W.hideAll B [ce.locals]).get? b with
      | none => rfl
      | some o => rw [(hB b o q).1] at e; cases e
    have st' : (PySem.W.hideAll B [ce.locals]).StaysIn h' := fun b o e => (sb.2 b (hB b o e).2).trans (k1 b o (hB b o e).1)
    have ff' : h'.FunFrames (PySem.W.hideAll B [ce.locals]) (env0 :: outer0) := frames_of k3 fun b hb => by
      obtain ⟨hb1, _⟩ := k3.mem hb
      exact ⟨hBn b hb1, sb.2 b fun z => cst (by rw [hst, ← z]; exact hb)⟩
    have he' : h'.get? a = some oe := (sb.2 a aC).trans he
    have tr' : HandSPX.TracedZ h' (PySem.W.hideAll B [ce.locals]) a (Zc cls d) (rawInt L) := ⟨oe, vs, T, oT, ts, he', hz, hd, h1', hBn T hnT, hTe, (sb.2 T TC).trans hT, hdT, h3⟩
    unfold PySem.passOn
    refine wpAny_bind (wpAny_field he' hd h1' ?_)
    rw [if_neg (show ¬ ((Value.ref T == Value.none) = true) from by simp)]
    have go : wpAny (model X.prog X.w) X.A (setFlight (.ref a) ce.frame) (fun _ s4 => wpAny (model X.prog X.w) X.A (throw (.ref a) : Sem Value) (fun _ _ => False) X.xe s4) X.xe { s' with heap := h' } := by
      refine HandSPX.setFlight_anyZ st' ff' tr' fun h2 l1 l2 l3 up2 => wpAny_throw (tk _ _ ?_)
      obtain ⟨f0, f1, f2, f3', f4, f5⟩ := fC
      refine ⟨a, PySem.W.hideAll B [ce.locals], { sI with heap := PySem.W.hideAll sI.heap [ce.locals], toks := sI.toks }, pins, σ, H', cls, d, rfl, I7.turned (t' := sI.toks) (fun b o hb e => PySem.W.hideAll_get _ e (by simpa using hb)) f0 f1 f3' f4 f5, fun b o e hb => ?_, fun b o e hnf => ?_, .inr (.inr ?_), na, os, ag, w⟩
      · have e1 := PySem.W.of_hideAll _ e
        have nb1 : b ≠ ce.locals := fun z => by
          have e : (PySem.W.hideAll sI.heap [ce.locals]).get? b = some o := e
          rw [z, PySem.W.hideAll_none _ List.mem_cons_self] at e; cases e
        exact PySem.W.hideAll_get _ (nb b o e1 hb) (by simpa using nb1)
      · have e : (PySem.W.hideAll sI.heap [ce.locals]).get? b = some o := e
        have e1 := PySem.W.of_hideAll _ e
        have nb1 : b ≠ ce.locals := fun z => by rw [z, PySem.W.hideAll_none _ List.mem_cons_self] at e; cases e
        obtain ⟨sl1, q1⟩ := up b o e1 hnf
        obtain ⟨sl2, q2⟩ := up1 b _ q1 hnf
        have q3 : h'.get? b = some { o with slots := sl2 } := (sb.2 b nb1).trans q2
        obtain ⟨sl3, q4⟩ := up2 b _ q3 hnf
        exact ⟨sl3, q4⟩
      · rw [hst]
        rw [hcF, hfX] at l3
        exact ⟨l1, hBn a k2, l2, l3⟩
    first
      | exact wpAny_bind (wpAny_pure (wpAny_bind go))
      | exact wpAny_bind go
  show wpAny _ X.A (noteFrame (.ref a) ce) _ _ s'
  rw [noteFrame_eq (env' := env0) (hcF.trans (hfX.trans hf0.symm))]
  rcases sky with ⟨hB, hn, hl, oe, vs, he, hz, hd, h1⟩ | fl | hh
  · exact HandSPX.look_newZ Zc.steady hfr hl hf0 he hB hn hd h1 hz fin
  · exact HandSPX.looks_onZ Zc.steady hfr hf0 fl fin
  · exact HandSPX.againZ hf0 hh.2.2.2 (fin s'.heap hh (Heap.UpToSlots.refl _))
end Cg

set_option maxHeartbeats 1000000
namespace Cg
open PySem PySem.Spec PyProof.Rows L2
abbrev blkEnv (X : Cx) (scope : Scope) (C : Addr) (cl : List (Str × Addr)) : Env := compEnvC scope cl C X.env
/-- a block's wish for exceptions follows from its context's -/
theorem pas_blk {X : Cx} {E : XK} (ps : Pas X E) {pins : List (Addr × Obj)} {σ : L2.St} {H3 : Hp} {s3 : Shared} {scope : Scope} {fp : List Addr} {ce : Env} {xe : Value → Shared → Prop} (I3 : Inv X pins σ H3 s3) (hcF : ce.frame = X.env.frame) (hcL : ce.locals = s3.heap.objs.size)
    (f3 : ∀ b ∈ fp, FpOk X pins H3 b ∧ b < s3.heap.objs.size) (hx : ∀ u s', notedBy (model X.prog X.w) X.A ce (fun e s'' => CompFails (model X.prog X.w) X.A X.xe ce e s'') u s' → xe u s') : Pas (Cx.blkx X s3 H3 scope ce fp xe) E := by
  rcases ps with h | ⟨L, env0, outer0, h1, h2, h3, h4⟩
  · exact .inl h
  · exact .inr ⟨L, env0, outer0, h1, h2, hcF.trans h3, fun u s' x => hx _ _ (fails_blk h1 h2 h3 h4 I3 hcF hcL f3 u s' x)⟩
section
variable {X : Cx}
/-- a list comprehension whose tests and element may let exceptions out -/
theorem lcx_core {E : XK} (ps : Pas X E) {pins : List (Addr × Obj)} {s : Shared} {σ : L2.St} {H : Hp} {Q : VK} {elt tg iter : Expr} {ifs : List Expr} {scope : Scope} {own : List (Str × Nat)} {pos pos' : Pos} {wi : TI} {g : TG} {tt : TT} {te : TE} {use : Option (Value → Sem Unit)} {Qf : Value → Shared → Prop}
    (hc : X.calm = true) (hN : X.N.Nodup) (I : Inv X pins σ H s) (hi : PI X tg iter wi) (ok : BlkOk X.N X.env.scope scope own)
    (hb : ∀ (s : Shared) (H : Hp) (C : Addr) (cl : List (Str × Addr)) (fp : List Addr) (xe : Value → Shared → Prop), Pas (Cx.blkx X s H scope (blkEnv X scope C cl) fp xe) E →
      PG (Cx.blkx X s H scope (blkEnv X scope C cl) fp xe) tg g ∧ PTs (Cx.blkx X s H scope (blkEnv X scope C cl) fp xe) ifs tt ∧ PE (Cx.blkx X s H scope (blkEnv X scope C cl) fp xe) elt te) (hs : ∀ x, foldedSetIterable iter X.env x = pure x)
    (h : tLc wi g tt te (own.map (·.2)) σ H Q)
    (hRR : ∀ D (ce : Env) s' m H', Inv X pins σ H' s' → Q (.ref D) H' → s'.heap.Ns ce.locals m → FpOk X pins H' ce.locals → compEnds (model X.prog X.w) X.A X.xe use Qf (.ref D) ce (.ok .next) s') :
    wpAny (model X.prog X.w) X.A (comprehension (.ListComp elt [⟨tg, iter, ifs, 0⟩] scope pos) scope X.env pos' (newList []) false (eval iter X.env) use) Qf X.xe s := by
  have hfree : ∀ y ∈ scope.names, y.2 = .free → ∃ c, X.env.cells.lookup y.1 = some c := fun y hy e => by
    rcases ok.free y hy e with k | k
    · exact I.ok.has _ (.inl k)
    · exact I.ok.has _ (.inr k)
  refine comprehension_at (use := use) rfl hs (closure_ok hfree) ok.kind (fun y hy e => by rw [ok.uniq y hy, e])
    (thn (hi.run pins s σ H _ I h) fun xv s1 hx => thn hx fun itv s2 h2 => ?_)
  obtain ⟨it, fp, tn, J, H2, e, I2, T, st2, f2, q⟩ := h2
  subst e
  refine wpAny_newObj_type (newEnv_comp ?_) (by show 0 ≤ sizeLine; decide)
  generalize hD : s2.heap.objs.size = D
  have hDn : H2 D = none := I2.hok.fresh (Nat.le_of_eq hD)
  obtain ⟨W, ⟨m0, w0⟩, turn⟩ := q D hDn
  generalize hs3 : ({ s2 with heap := s2.heap.push { cls := .type "list", data := .seq ([] : List Value).toArray } } : Shared) = s3
  have I3 : Inv X pins σ (upd H2 D (.lst [])) s3 := by
    rw [← hs3]
    refine I2.laid (t' := s2.toks) (fun b o e => Heap.get?_push_of_some _ e) (Nat.le_of_eq hD) ⟨Nat.zero_le _, [], 0, .nil, ?_⟩
    rw [← hD]
    exact Heap.get?_push_size _ rfl
  have h3 : s3.heap = s2.heap.push { cls := .type "list", data := .seq ([] : List Value).toArray } := by rw [← hs3]
  have sz : ∀ b ∈ fp, b < s2.heap.objs.size := fun b hb => by
    obtain ⟨o, e, _⟩ := T.obj _ _ st2 b hb
    exact Heap.lt_size e
  have f3 : ∀ b ∈ fp, FpOk X pins (upd H2 D (.lst [])) b ∧ b < s3.heap.objs.size := fun b hb => by
    have hlt := sz b hb
    refine ⟨⟨?_, (f2 b hb).2⟩, by rw [h3, Heap.size_push]; exact Nat.lt_succ_of_lt hlt⟩
    rw [upd_ne (by rw [← hD]; exact Nat.ne_of_lt hlt)]
    exact (f2 b hb).1
  have st3 : tn 0 s3.heap := T.keep _ _ _ st2 fun b _ o e => by rw [h3]; exact Heap.get?_push_of_some _ e
  have I4 := block_start I3 ok hN f3
  generalize hce : compEnvC scope (cellsFrom (s3.heap.objs.size + 1) scope.names (cloFrom X.env.cells scope.names [])) s3.heap.objs.size X.env = ce at I4
  have cL : ce.locals = s3.heap.objs.size := by subst hce; rfl
  have cF : ce.frame = X.env.frame := by subst hce; rfl
  obtain ⟨pg, pt, pe⟩ := hb s3 (upd H2 D (.lst [])) s3.heap.objs.size (cellsFrom (s3.heap.objs.size + 1) scope.names (cloFrom X.env.cells scope.names [])) fp
    (notedBy (model X.prog X.w) X.A ce (fun e s'' => CompFails (model X.prog X.w) X.A X.xe ce e s'')) (by
      show Pas (Cx.blkx X s3 (upd H2 D (.lst [])) scope (compEnvC scope (cellsFrom (s3.heap.objs.size + 1) scope.names (cloFrom X.env.cells scope.names [])) s3.heap.objs.size X.env) fp _) E
      rw [hce]
      exact pas_blk ps I3 cF cL f3 fun _ _ z => z)
  show codeAny _ _ (.compStart (.ListComp elt [⟨tg, iter, ifs, 0⟩] scope pos) 0 (.ref it) (.ref D) (compEnvC scope (cellsFrom (s3.heap.objs.size + 1) scope.names (cloFrom X.env.cells scope.names [])) s3.heap.objs.size X.env))
    (compEnds (model X.prog X.w) X.A X.xe use Qf (.ref D) (compEnvC scope (cellsFrom (s3.heap.objs.size + 1) scope.names (cloFrom X.env.cells scope.names [])) s3.heap.objs.size X.env)) { s3 with heap := pushCells (s3.heap.push { cls := .type "dict", data := .dict #[] }) scope.names }
  have nfp : ∀ b ∈ fp, (upd H2 D (.lst [])) b = none := fun b hb => (f3 b hb).1.1
  rw [show blkEnv X scope s3.heap.objs.size (cellsFrom (s3.heap.objs.size + 1) scope.names (cloFrom X.env.cells scope.names [])) = ce from hce] at pg pt pe
  rw [hce]
  generalize hH3 : upd H2 D (.lst []) = H3 at I3 I4 pg pt pe w0 nfp f3
  generalize hs4 : ({ s3 with heap := pushCells (s3.heap.push { cls := .type "dict", data := .dict #[] }) scope.names } : Shared) = s4 at I4 ⊢
  generalize hxe : (notedBy (model X.prog X.w) X.A ce (fun e s'' => CompFails (model X.prog X.w) X.A X.xe ce e s'')) = xe at pg pt pe
  have I4 : Inv (Cx.blkx X s3 H3 scope ce fp xe) [] (wipe σ (own.map (·.2))) H3 s4 := ⟨⟨I4.ok.mod, I4.ok.kind, I4.ok.glob, I4.ok.blt, I4.ok.above, I4.ok.inj, I4.ok.has, I4.ok.cab, I4.ok.hd, I4.ok.frames, I4.ok.stk, I4.ok.exf, I4.ok.bs, I4.ok.bsz, I4.ok.noex, I4.ok.exfs, I4.ok.funs, I4.ok.frf⟩,
    I4.os, I4.bare, I4.base, I4.loc, I4.cell, I4.free, I4.freeC, I4.pin, I4.hok, I4.len⟩
  have st4 : tn 0 s4.heap := T.keep _ _ _ st3 fun b _ o e => by rw [← hs4]; exact pushCells_keeps _ _ _ _ (Heap.get?_push_of_some _ e)
  have stat : ∀ {σ' : L2.St} {H' : Hp} {s' : Shared}, Inv (Cx.blkx X s3 H3 scope ce fp xe) [] σ' H' s' → (∀ b ∈ fp, H' b = none) → ∀ b ∈ fp, FpOk (Cx.blkx X s3 H3 scope ce fp xe) [] H' b := fun {σ' H' s'} I' hn b hb =>
    ⟨hn b hb, (I'.ok.exf b hb).1, I'.ok.exfs b hb, .inl hb, fun x c e => (I'.ok.exf b hb).2 x c e, fun p hp => absurd (show p ∈ ([] : List (Addr × Obj)) ++ [] from hp) (by simp)⟩
  have loop : codeAny (model X.prog X.w) X.A (.compLoop (.ListComp elt [⟨tg, iter, ifs, 0⟩] scope pos) 0 (.ref it) (.ref D) ce) (compEnds (model X.prog X.w) X.A X.xe use Qf (.ref D) ce) s4 := by
    have hE : ∀ u s', xe u s' → notedBy (model X.prog X.w) X.A ce (fun e s'' => compEnds (model X.prog X.w) X.A X.xe use Qf (.ref D) ce (.error e) s'') u s' := fun u s' z => by
      rw [← hxe] at z
      cases use <;> exact z
    refine compLoop_any (fun n s' => ∃ i H', Inv (Cx.blkx X s3 H3 scope ce fp xe) [] (wipe σ (own.map (·.2))) H' s' ∧ tn i s'.heap ∧ (∀ b ∈ fp, H' b = none) ∧ W i n H') ?_ m0 ⟨0, H3, I4, st4, nfp, w0⟩
    rintro n s5 ⟨i, H5, I5, st5, n5, w5⟩
    rcases turn i n H5 w5 with ⟨stop, qq⟩ | ⟨go, Nx, hNx, step⟩
    · have td := T.done (Cx.blkx X s3 H3 scope ce fp xe) rfl rfl rfl hc i [] s5 _ H5 (fun _ _ => False) I5 (stat I5 n5) st5 stop
      refine thnF td fun r s6 ⟨hr, I6⟩ => ?_
      subst hr
      have I7 : Inv X pins σ H5 s6 := I3.call' (ch := fp) I6.os I6.base I6.hok I6.bare fun b hb => ⟨(f3 b hb).1.2.2.2.1, (f3 b hb).1.2.1, (f3 b hb).1.2.2.2.2.1, (f3 b hb).1.2.2.2.2.2⟩
      have nC : H5 ce.locals = none := I6.free
      obtain ⟨m, hn, _⟩ := I6.loc
      have hn : s6.heap.Ns ce.locals m := hn
      refine hRR D ce s6 m H5 I7 qq hn ?_
      rw [cL] at nC ⊢
      exact I3.fpOk (Nat.le_refl _) nC
    · have ti := T.item (Cx.blkx X s3 H3 scope ce fp xe) rfl rfl rfl hc i [] s5 _ H5 (fun _ _ => False) I5 (stat I5 n5) st5 go
      refine thnF ti fun r s6 ⟨u, hr, h6⟩ => ?_
      subst hr
      refine thnF h6 fun _ s7 ⟨x, H7, I7, r7, y7, st7, n7⟩ => ?_
      have I7' := I7.pinned (stat I7 n7) (T.obj _ _ st7)
      refine wpAny_mono (pg.run _ s7 _ H7 x u _ I7' r7 (step x H7 y7)) (fun _ s8 ⟨σ8, H8, I8, hw8, q8⟩ => ?_) hE
      refine wpAny_mono (pt.run _ s8 σ8 H8 _ I8 q8) (fun b s9 ⟨H9, I9, q9⟩ => ?_) hE
      have fin : ∀ {s' : Shared} {H' : Hp}, Inv (Cx.blkx X s3 H3 scope ce fp xe) ([] ++ pinsAt fp s7.heap) σ8 H' s' → Nx H' → ∃ m, m < n ∧ ∃ i H', Inv (Cx.blkx X s3 H3 scope ce fp xe) [] (wipe σ (own.map (·.2))) H' s' ∧ tn i s'.heap ∧ (∀ b ∈ fp, H' b = none) ∧ W i m H' := fun {s' H'} I' nx => by
        obtain ⟨m', hm, w'⟩ := hNx H' nx
        have pin' : ∀ b ∈ fp, ∀ o, s7.heap.get? b = some o → s'.heap.get? b = some o ∧ H' b = none := fun b hb o e =>
          let z := I'.pin (b, o) (List.mem_append_right _ (List.mem_append_right _ (mem_pinsAt hb e)))
          ⟨z.1, z.2.1⟩
        have hl : (wipe σ (own.map (·.2))).length = σ8.length := by rw [← hw8, wipe_length]
        refine ⟨m', hm, i + 1, H', (I'.unpinned (pins := [])).weak hl (fun j v e => ?_), T.keep _ _ _ st7 fun b hb o e => (pin' b hb o e).1, fun b hb => ?_, w'⟩
        · rw [← hw8] at e
          exact (wipe_some e).1
        · obtain ⟨o, e, _⟩ := T.obj _ _ st7 b hb
          exact (pin' b hb o e).2
      cases b with
      | false =>
        simp only [Bool.false_eq_true, if_false] at q9 ⊢
        exact fin I9 q9
      | true =>
        simp only [if_true] at q9 ⊢
        refine wpAny_mono (pe.run _ s9 σ8 H9 _ I9 q9) (fun z s10 ⟨yv, H10, I10, r10, acc, hD10, hz10, nx⟩ => ?_) hE
        exact app_ok (X := Cx.blkx X s3 H3 scope ce fp xe) I10 hD10 hz10 r10 fun s11 I11 => fin I11 nx
  exact codeAny_compStart_list loop (T.self X.A 0 _ _ _ st4 loop)
/-- as a value -/
theorem pe_lcx {E : XK} (ps : Pas X E) {elt tg iter : Expr} {ifs : List Expr} {scope : Scope} {own : List (Str × Nat)} {pos : Pos} {wi : TI} {g : TG} {tt : TT} {te : TE} (hc : X.calm = true) (hN : X.N.Nodup) (hi : PI X tg iter wi) (ok : BlkOk X.N X.env.scope scope own)
    (hb : ∀ (s : Shared) (H : Hp) (C : Addr) (cl : List (Str × Addr)) (fp : List Addr) (xe : Value → Shared → Prop), Pas (Cx.blkx X s H scope (blkEnv X scope C cl) fp xe) E →
      PG (Cx.blkx X s H scope (blkEnv X scope C cl) fp xe) tg g ∧ PTs (Cx.blkx X s H scope (blkEnv X scope C cl) fp xe) ifs tt ∧ PE (Cx.blkx X s H scope (blkEnv X scope C cl) fp xe) elt te) (hs : ∀ x, foldedSetIterable iter X.env x = pure x) :
    PE X (.ListComp elt [⟨tg, iter, ifs, 0⟩] scope pos) (tLc wi g tt te (own.map (·.2))) := by
  refine ⟨fun pins s σ H Q I h => ?_⟩
  rw [eval_ListComp]
  refine lcx_core ps hc hN I hi ok hb hs h fun D ce s' m H' I' q hn f => ⟨m, hn, fun h'' sb => ?_⟩
  obtain ⟨f0, f1, f2, f3, f4, f5⟩ := f
  exact ⟨.ref D, H', I'.turned (t' := s'.toks) (fun b o hb e => (sb.2 b hb).trans e) f0 f1 f3 f4 f5, rfl, q⟩
/-- name = [..] on one line, the name a local -/
theorem ps_setLcx {E : XK} (ps : Pas X E) {i : Nat} {y : Str} {py : Pos} {elt tg iter : Expr} {ifs : List Expr} {scope : Scope} {own : List (Str × Nat)} {pos spos : Pos} {wi : TI} {g : TG} {tt : TT} {te : TE} (hc : X.calm = true) (hN : X.N.Nodup) (hy : X.N[i]? = some y) (hyl : X.env.scope.names.lookup y = some .local)
    (hsw : swapsWith (.ListComp elt [⟨tg, iter, ifs, 0⟩] scope pos) (some (.Name y py)) spos.line X.env = pure true) (hi : PI X tg iter wi) (ok : BlkOk X.N X.env.scope scope own)
    (hb : ∀ (s : Shared) (H : Hp) (C : Addr) (cl : List (Str × Addr)) (fp : List Addr) (xe : Value → Shared → Prop), Pas (Cx.blkx X s H scope (blkEnv X scope C cl) fp xe) E →
      PG (Cx.blkx X s H scope (blkEnv X scope C cl) fp xe) tg g ∧ PTs (Cx.blkx X s H scope (blkEnv X scope C cl) fp xe) ifs tt ∧ PE (Cx.blkx X s H scope (blkEnv X scope C cl) fp xe) elt te) (hs : ∀ x, foldedSetIterable iter X.env x = pure x) :
    PS X (.Assign [.Name y py] (.ListComp elt [⟨tg, iter, ifs, 0⟩] scope pos) spos) (tAsg (tLc wi g tt te (own.map (·.2))) (gName i)) := by
  refine ⟨fun pins s σ H D I h => ?_⟩
  rw [exec_Assign_Name_used _ _ _ _ hsw]
  refine wpAny_bind (wpAny_standAt (wpAny_bind ?_))
  show wpAny _ X.A (do let _ ← comprehension (.ListComp elt [⟨tg, iter, ifs, 0⟩] scope pos) scope X.env (firstIterPos [⟨tg, iter, ifs, 0⟩] pos) (newList []) false (eval iter X.env) (some (assign (.Name y py) X.env))) _ _ s
  have h : tLc wi g tt te (own.map (·.2)) σ H (fun x H1 => gName i x σ H1 D.nx) := h
  refine wpAny_bind (thn (lcx_core (Qf := fun _ s' => SP X pins D .next s') ps hc hN I hi ok hb hs h fun L ce s' m H' I' q hn f => ?_) fun _ s' hq => wpAny_pure (wpAny_pure hq))
  show wpAny _ _ (assign (.Name y py) X.env (.ref L)) _ _ _
  refine wpAny_assign_Name (store_ok2 (v := V.ref L) I' hN hy (.inl hyl) rfl (fun s2 I2 ⟨a, sb, ha⟩ => ?_) (.inr hyl))
  obtain ⟨f0, f1, f2, f3, f4, f5⟩ := f
  have haC : ce.locals ≠ a := by
    rcases ha with z | z
    · rw [z]; exact f1
    · exact fun e => f4 y a z e.symm
  refine ⟨m, hn.sameBut sb haC, fun h3 sb3 => ?_⟩
  exact ⟨_, H', I2.turned (t' := s2.toks) (fun b o hb e => (sb3.2 b hb).trans e) f0 f1 f3 f4 f5, q⟩
end
end Cg

set_option maxHeartbeats 1000000
namespace Cg
open PySem PySem.Spec PyProof.Rows L2
/-! ### 11. the checker: an Expr is the translation of a C -/
structure Tx where
  Γ : Tb
  N : List Str
  lv : Nat
  fr : List Str
  cs : List (Str × PyData)
  ex : List Str
  hx : List Str
def lkC (sc : Scope) (x : Str) : Bool := match sc.names.lookup x with
  | some .local => true
  | some .cell => true
  | some .free => true
  | _ => false
def plN (x : Str) : Bool := !(x == ("__debug__" : Str)) && !(x == ("__classdict__" : Str)) && !(x == ("__name__" : Str))
def nmC (T : Tx) (sc : Scope) (i : Nat) (x : Str) : Bool := decide (T.N[i]? = some x) && lkC sc x && plN x
def glC (sc : Scope) (x : Str) : Bool := (match sc.names.lookup x with
  | some .globalImplicit => true
  | _ => false) && plN x
def blC (T : Tx) (sc : Scope) (x : Str) : Bool := glC sc x && T.fr.contains x
def eqD (d e : PyData) : Bool := match d, e with
  | .int i, .int j => decide (i = j)
  | .str a, .str b => decide (a = b)
  | _, _ => false
def biN : Bi → Str
  | .len => "len"
  | .abs => "abs"
  | .minL => "min"
  | .maxL => "max"
  | .min2 => "min"
  | .max2 => "max"
  | .sum => "sum"
  | .any => "any"
  | .all => "all"
  | .sorted => "sorted"
  | .tuple => "tuple"
  | .list => "list"
  | .int => "int"
  | .str => "str"
  | .dict => "dict"
def notStar : Expr → Bool
  | .Starred _ _ => false
  | _ => true
def notSet : Expr → Bool
  | .Set _ _ _ => false
  | _ => true
/-- what stands as a plain subscript -/
def plainIxB : Expr → Bool
  | .Name _ _ => true
  | .Constant (.int _) _ _ => true
  | .BinOp _ _ _ _ => true
  | .UnaryOp _ _ _ => true
  | .Subscript _ _ _ => true
  | .Call _ _ _ _ => true
  | .Tuple _ _ _ => true
  | _ => false
def fcOf (scope : Scope) : Str → Bool := fun x => scope.names.lookup x == some .cell
/-- a name that may be stored at -/
def stC (T : Tx) (sc : Scope) (fc : Str → Bool) (i : Nat) (x : Str) : Bool := decide (T.N[i]? = some x) && (match sc.names.lookup x with
  | some .local => true
  | some .cell => fc x
  | _ => false)
def stCs (T : Tx) (sc : Scope) (fc : Str → Bool) : List Nat → List Expr → Bool
  | [], [] => true
  | i :: is, .Name x _ :: ts => stC T sc fc i x && stCs T sc fc is ts
  | _, _ => false
def tgC (T : Tx) (sc : Scope) (fc : Str → Bool) (tg : Tg) (t : Expr) : Bool := match tg, t with
  | .one i, .Name x _ => stC T sc fc i x
  | .tup is, .Tuple ts _ _ => stCs T sc fc is ts
  | _, _ => false
def tgIx : Tg → List Nat
  | .one i => [i]
  | .tup is => is
/-- what stands as a test; a condition within if is no test here -/
def tstC : C → Bool
  | .ife _ _ _ => false
  | _ => true
def isTupE : Expr → Bool
  | .Tuple _ _ _ => true
  | _ => false
def isNameE : Expr → Bool
  | .Name _ _ => true
  | _ => false
def sub1 (ws : List Nat) (is : List Nat) : Bool := is.all fun i => ws.contains i
def isRng : It' → Bool
  | .rng1 _ => true
  | .rng2 _ _ => true
  | _ => false
/-- a list of defs by their names -/
def calC (T : Tx) (sc : Scope) (n : Nat) : List Nat → List Expr → Bool
  | [], [] => true
  | k :: ks, .Name f _ :: fs => decide (f = (T.Γ k).name) && glC sc f && decide ((T.Γ k).lvl ≤ T.lv) && decide (n = (T.Γ k).ar) && calC T sc n ks fs
  | _, _ => false
def isBase : Expr → Bool
  | .Name _ _ => true
  | .Constant _ _ _ => true
  | _ => false
def mthN (m : Str) : Bool := decide (m = "index") || decide (m = "split") || decide (m = "join")
/-- a plain test -/
def pT : Expr → Bool
  | .UnaryOp .Not _ _ => false
  | .BoolOp _ _ _ => false
  | .IfExp _ _ _ _ => false
  | .Compare _ _ _ _ => false
  | _ => true
def clen : Cs → Nat
  | .nil => 0
  | .cons _ cs => clen cs + 1
mutual
def chk (T : Tx) : C → Scope → Bool → Expr → Bool
  | .var i, sc, _, x => match x with
    | .Name n _ => nmC T sc i n
    | _ => false
  | .bor i, sc, b, x => match x with
    | .Name n _ => b && nmC T sc i n
    | _ => false
  | .int k, _, _, x => match x with
    | .Constant (.int j) _ _ => decide (k = j)
    | _ => false
  | .str k, _, _, x => match x with
    | .Constant (.str j) _ _ => decide (k = j)
    | _ => false
  | .bl k, _, _, x => match x with
    | .Constant (.bool j) _ _ => decide (k = j)
    | _ => false
  | .non, _, _, x => match x with
    | .Constant .none _ _ => true
    | _ => false
  | .glo n d, sc, _, x => match x with
    | .Name m _ => decide (n = m) && glC sc m && (match T.cs.lookup m with
      | some e => eqD d e
      | none => false)
    | _ => false
  | .tup es, sc, _, x => match x with
    | .Tuple xs _ _ => chks T es sc false xs
    | _ => false
  | .lst es, sc, _, x => match x with
    | .List xs _ => chks T es sc false xs
    | _ => false
  | .rep es k, sc, _, x => match x with
    | .BinOp (.List xs _) .Mult (.Constant (.int j) _ _) _ => chks T es sc false xs && decide ((k : Int) = j)
    | _ => false
  | .bin op a b, sc, _, x => match x with
    | .BinOp xa o xb _ => decide (op = o) && chk T a sc true xa && chk T b sc true xb
    | _ => false
  | .neg a, sc, _, x => match x with
    | .UnaryOp .USub xa _ => chk T a sc true xa
    | _ => false
  | .nt a, sc, _, x => match x with
    | .UnaryOp .Not xa _ => chk T a sc true xa && tstC a
    | _ => false
  | .cmp op a b, sc, _, x => match x with
    | .Compare xa [o] [xb] _ => decide (op = o) && chk T a sc true xa && chk T b sc true xb && notSet xb
    | _ => false
  | .chn op op' a b c, sc, _, x => match x with
    | .Compare xa [o, o'] [xb, xc] _ => decide (op = o) && decide (op' = o') && chk T a sc true xa && chk T b sc true xb && chk T c sc true xc && notSet xc
    | _ => false
  | .and a b, sc, _, x => match x with
    | .BoolOp .And (xa :: xb :: r) p => chk T a sc true xa && tstC a && chk T b sc true (.BoolOp .And (xb :: r) p)
    | _ => false
  | .or a b, sc, _, x => match x with
    | .BoolOp .Or (xa :: xb :: r) p => chk T a sc true xa && tstC a && chk T b sc true (.BoolOp .Or (xb :: r) p)
    | _ => false
  | .and1 a, sc, b, x => match x with
    | .BoolOp .And [xa] _ => chk T a sc b xa && tstC a
    | _ => false
  | .or1 a, sc, b, x => match x with
    | .BoolOp .Or [xa] _ => chk T a sc b xa && tstC a
    | _ => false
  | .ife c a d, sc, b, x => match x with
    | .IfExp xc xa xd _ => chk T c sc true xc && tstC c && chk T a sc b xa && chk T d sc b xd
    | _ => false
  | .ix a i, sc, _, x => match x with
    | .Subscript xa xi _ => chk T a sc true xa && chk T i sc true xi && plainIxB xi
    | _ => false
  | .slc a lo hi, sc, _, x => match x with
    | .Subscript xa (.Slice l h none _) _ => chk T a sc true xa && chkO T lo sc l && chkO T hi sc h
    | _ => false
  | .rev a, sc, _, x => match x with
    | .Subscript xa (.Slice none none (some (.UnaryOp .USub (.Constant (.int j) _ _) _)) _) _ => decide (j = 1) && chk T a sc true xa
    | _ => false
  | .isi t a, sc, _, x => match x with
    | .Call (.Name f _) [xa, .Name y _] [] _ => decide (f = "isinstance") && blC T sc f && decide (y = (tyN t : Str)) && blC T sc y && chk T a sc true xa && notStar xa
    | _ => false
  | .call k es, sc, _, x => match x with
    | .Call (.Name f _) xs [] _ => decide (f = (T.Γ k).name) && glC sc f && decide ((T.Γ k).lvl ≤ T.lv) && chks T es sc false xs && decide (clen es = (T.Γ k).ar)
    | _ => false
  | .blt f es, sc, _, x => match x with
    | .Call (.Name n _) (xa :: xs) [] _ => decide (n = biN f) && blC T sc n && chks T es sc true (xa :: xs)
    | _ => false
  | .sset a, sc, _, x => match x with
    | .Call (.Name f _) [.Call (.Name g _) [xa] [] _] [] _ => decide (f = "sorted") && blC T sc f && decide (g = "set") && blC T sc g && chk T a sc true xa && notStar xa
    | _ => false
  | .lset a, sc, _, x => match x with
    | .Call (.Name f _) [.Call (.Name g _) [xa] [] _] [] _ => decide (f = "len") && blC T sc f && decide (g = "set") && blC T sc g && chk T a sc true xa && notStar xa
    | _ => false
  | .stk, _, _, x => pT x
  | .inr a n, sc, _, x => match x with
    | .Compare xa [.In] [.Call (.Name f _) [xn] [] _] _ => decide (f = "range") && blC T sc f && chk T a sc true xa && chk T n sc true xn && notStar xn
    | _ => false
  | .rgL t it, sc, _, x => match x with
    | .Call (.Name f _) [xe] [] _ => decide (f = (if t = true then "tuple" else "list" : Str)) && blC T sc f && isRng it && chkI T it sc xe xe && notStar xe
    | _ => false
  | .cal ks i es, sc, _, x => match x with
    | .Call (.Subscript (.List fs _) xi _) (xa :: xs) [] _ => decide (ks.length ≤ 100) && calC T sc (clen es) ks fs && chk T i sc true xi && plainIxB xi && chks T es sc false (xa :: xs)
    | _ => false
  | .mth o m a, sc, _, x => match x with
    | .Call (.Attribute xo m' apos) [xa] [] cpos => decide (m = m') && mthN m && isBase xo && (apos.endLine == cpos.line) && notStar xa && chk T o sc true xo && chk T a sc false xa
    | _ => false
  | .lc elt tg it ws, sc, _, x => match x with
    | .ListComp xe [⟨t, xi, [], 0⟩] scope _ => chkI T it sc t xi && blkC T.N sc scope ws && tgC T (relS scope sc) (fcOf scope) tg t && sub1 (ws.map (·.2)) (tgIx tg) && chk T elt (relS scope sc) false xe && notSet xi
    | _ => false
  | .lcf elt tg it c ws, sc, _, x => match x with
    | .ListComp xe [⟨t, xi, [xc], 0⟩] scope _ => chkI T it sc t xi && blkC T.N sc scope ws && tgC T (relS scope sc) (fcOf scope) tg t && sub1 (ws.map (·.2)) (tgIx tg) && chk T elt (relS scope sc) false xe && notSet xi &&
        chk T c (relS scope sc) true xc && tstC c
    | _ => false
  | .lc2 elt tg it tg' it' ws ws', sc, _, x => match x with
    | .ListComp xe [⟨t, xi, [], 0⟩, ⟨t', xi', [], 0⟩] scope _ => chkI T it sc t xi && blkC T.N sc scope ws && tgC T (relS scope sc) (fcOf scope) tg t && sub1 (ws.map (·.2)) (tgIx tg) && chk T elt (relS scope sc) false xe && notSet xi &&
        chkI T it' (relS scope sc) t' xi' && tgC T (relS scope sc) (fcOf scope) tg' t' && sub1 ws' (tgIx tg') && sub1 (ws.map (·.2)) ws' && notSet xi'
    | _ => false
def chks (T : Tx) : Cs → Scope → Bool → List Expr → Bool
  | .nil, _, _, xs => match xs with
    | [] => true
    | _ => false
  | .cons c cs, sc, b, xs => match xs with
    | x :: r => notStar x && chk T c sc b x && chks T cs sc b r
    | _ => false
def chkO (T : Tx) : Op → Scope → Option Expr → Bool
  | .none, _, x => match x with
    | none => true
    | _ => false
  | .some c, sc, x => match x with
    | some y => chk T c sc true y
    | _ => false
def chkI (T : Tx) : It' → Scope → Expr → Expr → Bool
  | .val c, sc, _, x => chk T c sc false x
  | .rng1 a, sc, _, x => match x with
    | .Call (.Name f _) [xa] [] _ => decide (f = "range") && blC T sc f && chk T a sc true xa && notStar xa
    | _ => false
  | .rng2 a b, sc, _, x => match x with
    | .Call (.Name f _) [xa, xb] [] _ => decide (f = "range") && blC T sc f && chk T a sc true xa && notStar xa && chk T b sc true xb && notStar xb
    | _ => false
  | .zip a b, sc, t, x => match x with
    | .Call (.Name f _) [xa, xb] [] _ => decide (f = "zip") && blC T sc f && isTupE t && chk T a sc false xa && notStar xa && chk T b sc false xb && notStar xb
    | _ => false
  | .enu a, sc, t, x => match x with
    | .Call (.Name f _) [xa] [] _ => decide (f = "enumerate") && blC T sc f && isTupE t && chk T a sc false xa && notStar xa
    | _ => false
  | .zip1 a b, sc, t, x => match x with
    | .Call (.Name f _) [xa, xb] [] _ => decide (f = "zip") && blC T sc f && isNameE t && chk T a sc false xa && notStar xa && chk T b sc false xb && notStar xb
    | _ => false
end
/-! ### 12. what is promised; the readings -/
def exV (K : PySem.W.Frag) (k : Str) : Value := .ref (He.ga K k)
/-- the result, or the exception that leaves; the heap may have grown -/
def Post {α : Type} (K : PySem.W.Frag) (E : XK) (H : Hp) (r : Res α) (P : α → Hp → Prop) : Prop := match r with
  | .ok a => ∀ H', Same H H' → P a H'
  | .exc k => ∀ H', Same H H' → E (exV K k) none H'
  | .no => False
section
variable {K : PySem.W.Frag} {E : XK} {H H' : Hp} {α β : Type}
theorem Post.mono {r : Res α} {P : α → Hp → Prop} (h : Post K E H r P) (s : Same H H') : Post K E H' r P := by
  cases r with
  | ok a => exact fun H2 s2 => h H2 (s.trans s2)
  | exc k => exact fun H2 s2 => h H2 (s.trans s2)
  | no => exact h
theorem Post.imp {r : Res α} {P P' : α → Hp → Prop} (h : Post K E H r P) (i : ∀ a H', Same H H' → P a H' → P' a H') : Post K E H r P' := by
  cases r with
  | ok a => exact fun H2 s2 => i _ _ s2 (h H2 s2)
  | exc k => exact h
  | no => exact h
theorem Post.imp' {r : Res α} {P P' : α → Hp → Prop} (h : Post K E H r P) (i : ∀ a H', r = .ok a → Same H H' → P a H' → P' a H') : Post K E H r P' := by
  cases r with
  | ok a => exact fun H2 s2 => i _ _ rfl s2 (h H2 s2)
  | exc k => exact h
  | no => exact h
theorem Post.bind {r : Res α} {f : α → Res β} {P : β → Hp → Prop} (h : Post K E H (r.bind f) P) : Post K E H r (fun a H1 => Post K E H1 (f a) P) := by
  cases r with
  | ok a => exact fun H2 s2 => Post.mono (r := f a) h s2
  | exc k => exact h
  | no => exact h
theorem Post.ok {r : Res α} {P : α → Hp → Prop} (h : Post K E H r P) (hn : ∀ k, r ≠ .exc k) : ∃ a, r = .ok a ∧ ∀ H', Same H H' → P a H' := by
  cases r with
  | ok a => exact ⟨a, rfl, h⟩
  | exc k => exact absurd rfl (hn k)
  | no => exact h.elim
theorem Post.now {a : α} {P : α → Hp → Prop} (h : Post K E H (.ok a) P) : P a H := h H (Same.refl H)
end
def relq (b : Bool) (K : PySem.W.Frag) (H : Hp) (v : V) (d : PyData) : Prop := match b with
  | true => Rb K H v d
  | false => Rp K H v d
def relA (b : Bool) (K : PySem.W.Frag) (H : Hp) (vs : List V) (ds : List PyData) : Prop := match b with
  | true => RbAll K H vs ds
  | false => RpAll K H vs ds
theorem relq_of {b : Bool} {K : PySem.W.Frag} {H : Hp} {v : V} {d : PyData} (h : Rp K H v d) : relq b K H v d := by
  cases b with
  | true => exact .rp h
  | false => exact h
theorem relq_rb {b : Bool} {K : PySem.W.Frag} {H : Hp} {v : V} {d : PyData} (h : relq b K H v d) : Rb K H v d := by
  cases b with
  | true => exact h
  | false => exact .rp h
theorem relq.mono {b : Bool} {K : PySem.W.Frag} {H H' : Hp} {v : V} {d : PyData} (h : relq b K H v d) (s : Same H H') : relq b K H' v d := by
  cases b with
  | true => exact Rb.mono s h
  | false => exact Rp.mono (.of s) h
theorem relA_nil {b : Bool} {K : PySem.W.Frag} {H : Hp} : relA b K H [] [] := by
  cases b with
  | true => exact .nil
  | false => exact .nil
theorem relA_cons {b : Bool} {K : PySem.W.Frag} {H : Hp} {v : V} {d : PyData} {vs : List V} {ds : List PyData} (h : relq b K H v d) (r : relA b K H vs ds) : relA b K H (v :: vs) (d :: ds) := by
  cases b with
  | true => exact .cons h r
  | false => exact .cons h r
/-- what a def promises -/
def spF (K : PySem.W.Frag) (g : FnE) : Sp := fun vs H Q E => vs.length = g.ar ∧ ∃ ds, RpAll K H vs ds ∧ Post K E H (g.run ds) (fun d H' => ∀ v, Rp K H' v d → Q v H')
/-- an iterator serves the items xs, whatever is done to the things that may change -/
def ItOk (K : PySem.W.Frag) (J : It) (H : Hp) (xs : List PyData) : Prop := ∀ (i : Nat) (H' : Hp), KeepF H H' → match xs[i]? with
  | some d => J.go i H' ∧ ∀ x H'', J.yld i H' x H'' → Same H' H'' ∧ Rp K H'' x d
  | none => i = xs.length → J.stop i H'
section
variable (Γ : Tb) (K : PySem.W.Frag) (E : XK) (H0 : Hp)
def rd (b : Bool) (c : C) : TE := fun σ H Q => ∃ e, StOk K H0 e σ H ∧ Post K E H (evE Γ c e) (fun d H' => ∀ v, relq b K H' v d → Q v H')
def rdA (b : Bool) (c : Cs) : TA := fun σ H Q => ∃ e, StOk K H0 e σ H ∧ Post K E H (evs Γ c e) (fun d H' => ∀ v, relA b K H' v d → Q v H')
def rdT (c : C) : TT := fun σ H Q => ∃ e, StOk K H0 e σ H ∧ Post K E H ((evE Γ c e).bind asB) (fun d H' => Q d H')
def rdO (c : Op) : TO := fun σ H Q => ∃ e, StOk K H0 e σ H ∧ Post K E H (evO Γ c e) (fun d H' => Q d H')
def rdI (c : It') : TI := fun σ H R => ∃ e, StOk K H0 e σ H ∧ Post K E H (evI Γ c e) (fun d H' => ∀ J, ItOk K J H' d → R J H')
end
/-- what an except suite leans on -/
structure HxOk (T : Tx) (K : PySem.W.Frag) (mg : Str → Option Value) : Prop where
  ge : mg "GearError" = some (.ref (He.ga K "GearError"))
  xc : ∀ k, T.hx.contains k = true → ExcC K (He.ga K k) ∧ PySem.W.exmOne K (.ref (He.ga K k)) (.ref (He.ga K "GearError")) = some true ∧ mg k = some (.ref (He.ga K k))
  ki : ∀ k k', T.hx.contains k = true → T.hx.contains k' = true → PySem.W.kitOne K (.ref (He.ga K k)) (.ref (He.ga K k')) = some (decide (k' = k))
/-- what is known of a program's table -/
structure TabOk (T : Tx) (P : Program) (w : World) (K : PySem.W.Frag) (mg : Str → Option Value) (base : Heap) : Prop where
  fn : ∀ k, (T.Γ k).lvl ≤ T.lv → ∃ f fd ps, FnOk P w K mg base (L2.CX P w) (T.Γ k).lvl f fd ps (spF K (T.Γ k)) ∧ mg (T.Γ k).name = some (.ref f) ∧ PySem.W.keepIn K (.ref f) = true ∧ Binds K fd ps []
  fre : ∀ x, T.fr.contains x = true → mg x = none
  cst : ∀ x d e, T.cs.lookup x = some e → eqD d e = true → ∃ u v, mg x = some u ∧ RelV v u ∧ ∀ H, Rp K H v d
  exn : ∀ k, T.ex.contains k = true → PySem.W.excIn K (He.ga K k) He.veBase "ValueError.__new__" = true ∧ mg k = some (.ref (He.ga K k)) ∧ PySem.W.keepIn K (.ref (He.ga K k)) = true ∧
    PySem.W.subIn K (.ref (He.ga K k)) (.type "BaseException") = some true ∧ PySem.W.typeIn K (.ref (He.ga K k)) = some (.type "type")
  hdx : T.hx ≠ [] → HxOk T K mg
structure CxOk (T : Tx) (sc : Scope) (fc : Str → Bool) (X : Cx) (E : XK) : Prop where
  hN : X.N = T.N
  nd : T.N.Nodup
  hsc : X.env.scope = sc
  calm : X.calm = true
  room : Room T.lv X.A
  tab : TabOk T X.prog X.w X.K X.mg X.base
  pass : Pas X E
  hfn : ∀ x, fc x = true → X.fn x = true
theorem CxOk.blk {T : Tx} {sc : Scope} {fc : Str → Bool} {X : Cx} {E : XK} (ok : CxOk T sc fc X E) (s : Shared) (H : Hp) (scope : Scope) (C : Addr) (cl : List (Str × Addr)) (fp : List Addr) :
    CxOk T (relS scope sc) (fcOf scope) (X.blk s H scope (compEnvC scope cl C X.env) fp) E0 :=
  ⟨ok.hN, ok.nd, by rw [← ok.hsc]; rfl, ok.calm, ok.room, ok.tab, .none fun _ _ _ h => h, fun _ h => h⟩
theorem CxOk.blkx {T : Tx} {sc : Scope} {fc : Str → Bool} {X : Cx} {E : XK} (ok : CxOk T sc fc X E) (s : Shared) (H : Hp) (scope : Scope) (C : Addr) (cl : List (Str × Addr)) (fp : List Addr) (xe : Value → Shared → Prop) (ps : Pas (Cx.blkx X s H scope (blkEnv X scope C cl) fp xe) E) :
    CxOk T (relS scope sc) (fcOf scope) (Cx.blkx X s H scope (blkEnv X scope C cl) fp xe) E :=
  ⟨ok.hN, ok.nd, by rw [← ok.hsc]; rfl, ok.calm, ok.room, ok.tab, ps, fun _ h => h⟩
def SndE (T : Tx) (c : C) : Prop := ∀ {sc : Scope} {fc : Str → Bool} {X : Cx} {E : XK} (H0 : Hp), CxOk T sc fc X E → ∀ (b : Bool) (x : Expr), chk T c sc b x = true → PE X x (rd T.Γ X.K E H0 b c)
def SndT (T : Tx) (c : C) : Prop := ∀ {sc : Scope} {fc : Str → Bool} {X : Cx} {E : XK} (H0 : Hp), CxOk T sc fc X E → ∀ (b : Bool) (x : Expr), chk T c sc b x = true → tstC c = true →
  PT X x (rdT T.Γ X.K E H0 c) ∧ ∀ op es pos, x = .BoolOp op es pos → PW X x (rdT T.Γ X.K E H0 c)
def Snd (T : Tx) (c : C) : Prop := SndE T c ∧ SndT T c
def SndA (T : Tx) (c : Cs) : Prop := ∀ {sc : Scope} {fc : Str → Bool} {X : Cx} {E : XK} (H0 : Hp), CxOk T sc fc X E → ∀ (b : Bool) (x : List Expr), chks T c sc b x = true → PA X x (rdA T.Γ X.K E H0 b c)
def SndO (T : Tx) (c : Op) : Prop := ∀ {sc : Scope} {fc : Str → Bool} {X : Cx} {E : XK} (H0 : Hp), CxOk T sc fc X E → ∀ (x : Option Expr), chkO T c sc x = true → PO X x (rdO T.Γ X.K E H0 c)
def SndI (T : Tx) (c : It') : Prop := ∀ {sc : Scope} {fc : Str → Bool} {X : Cx} {E : XK} (H0 : Hp), CxOk T sc fc X E → ∀ (t x : Expr), chkI T c sc t x = true → PI X t x (rdI T.Γ X.K E H0 c)
end Cg

set_option maxHeartbeats 1000000
namespace Cg
open PySem PySem.Spec PyProof.Rows L2
/-! ### 13. the rules, one for each form -/
section
variable {X : Cx} {Γ : Tb} {E : XK} {H0 : Hp} {b : Bool} {c : C} {x : Expr}
theorem toB (h : PE X x (rd Γ X.K E H0 false c)) : PE X x (rd Γ X.K E H0 b c) := pe_imp h fun σ H Q ⟨e, st, p⟩ => ⟨e, st, p.imp fun d H' _ q v r => q v (relq_of r)⟩
end
theorem isTrue_pT {x : Expr} (h : pT x = true) (env : Env) (whole : Sem Value) : isTrue x env whole = (do let v ← whole; standAt x.pos; holding [v] (truthy v)) := by
  cases x <;> first
    | rfl
    | (simp [pT] at h; done)
    | (rename_i op _ _; cases op <;> first
      | rfl
      | (simp [pT] at h; done))
theorem asB_ok {d : PyData} {k : Bool} (h : asB d = .ok k) : d = .bool k := by
  cases d <;> simp [asB] at h
  subst h; rfl
theorem asI_ok {d : PyData} {k : Int} (h : asI d = .ok k) : d = .int k := by
  cases d <;> simp [asI] at h
  subst h; rfl
theorem asB_ne (d : PyData) (k : Str) : asB d ≠ .exc k := by cases d <;> simp [asB]
theorem asI_ne (d : PyData) (k : Str) : asI d ≠ .exc k := by cases d <;> simp [asI]
theorem ne_ite {α : Type} {p : Prop} [Decidable p] {a : α} {k : Str} : (if p then (Res.ok a) else .no) ≠ .exc k := by split <;> intro h <;> cases h
theorem getV_ne (e : Ev) (i : Nat) (k : Str) : getV e i ≠ .exc k := by unfold getV; split <;> intro h <;> cases h
theorem peek_ne (e : Ev) (i : Nat) (k : Str) : peek e i ≠ .exc k := by unfold peek; split <;> intro h <;> cases h
theorem listD_ne (ds : List PyData) (k : Str) : listD ds ≠ .exc k := ne_ite
theorem tupD_ne (ds : List PyData) (k : Str) : tupD ds ≠ .exc k := ne_ite
theorem dBin_ne (op : Operator) (a b : PyData) (k : Str) : dBin op a b ≠ .exc k := by
  unfold dBin
  split <;> (try split) <;> intro h <;> cases h
theorem dCmp_ne (op : CmpOp) (a b : PyData) (k : Str) : dCmp op a b ≠ .exc k := by
  unfold dCmp
  split <;> (try split) <;> intro h <;> cases h
theorem dIx_ne (a b : PyData) (k : Str) : dIx a b ≠ .exc k := by
  unfold dIx
  split <;> (try split) <;> (try split) <;> intro h <;> cases h
theorem dSlc_ne (a : PyData) (l h : Option Int) (k : Str) : dSlc a l h ≠ .exc k := by
  unfold dSlc
  split <;> (try split) <;> intro h <;> cases h
theorem dRev_ne (a : PyData) (k : Str) : dRev a ≠ .exc k := by
  unfold dRev
  split <;> intro h <;> cases h
theorem dIsi_ne (t : Ty) (a : PyData) (k : Str) : dIsi t a ≠ .exc k := by
  unfold dIsi
  split <;> intro h <;> cases h
theorem dSorted_ne (ds : List PyData) (k : Str) : dSorted ds ≠ .exc k := ne_ite
theorem dLen_ne (a : PyData) (k : Str) : dLen a ≠ .exc k := by
  unfold dLen
  split <;> (try split) <;> intro h <;> cases h
theorem dDct_ne (ds : List PyData) (k : Str) : dDct ds ≠ .exc k := by
  unfold dDct
  split <;> (try split) <;> (try split) <;> (intro h; cases h; done)
theorem dLset_ne (d : PyData) (k : Str) : dLset d ≠ .exc k := by
  unfold dLset
  split <;> (try split) <;> (intro h; cases h; done)
theorem dBlt_ne (f : Bi) (ds : List PyData) (k : Str) : dBlt f ds ≠ .exc k := by
  unfold dBlt
  split <;> (try split) <;> (try split) <;> first
    | exact dLen_ne _ _
    | exact dSorted_ne _ _
    | exact dDct_ne _ _
    | (intro h; cases h; done)
theorem mthK_ne (m : Str) (x : PyData) (k : Str) : mthK m x ≠ .exc k := by
  unfold mthK
  split <;> (try split) <;> (intro h; cases h; done)
theorem dMth_ne (m : Str) (o : PyData) (ds : List PyData) (k : Str) : dMth m o ds ≠ .exc k := by
  unfold dMth
  split <;> (repeat' split) <;> (intro h; cases h; done)
theorem dSset_ne (a : PyData) (k : Str) : dSset a ≠ .exc k := by
  unfold dSset
  split <;> (try split) <;> first
    | exact dSorted_ne _ _
    | (intro h; cases h; done)
section
variable {X : Cx} {Γ : Tb} {E : XK} {H0 : Hp} {b : Bool} {c : C} {x : Expr}
theorem pt_of (h : PE X x (rd Γ X.K E H0 b c)) (hp : pT x = true) : PT X x (rdT Γ X.K E H0 c) := by
  refine pt_imp (pt_val h fun w => isTrue_pT hp _ w) fun σ H Q ⟨e, st, p⟩ => ⟨e, st, p.bind.imp fun d H1 _ p1 v r => ?_⟩
  obtain ⟨k, e1, q⟩ := p1.ok (asB_ne d)
  have e2 := asB_ok e1
  subst e2
  rw [(relq_rb r).bl]
  exact ⟨k, rfl, q H1 (Same.refl _)⟩
end
theorem Snd.plain {T : Tx} {c : C} (hE : SndE T c) (hp : ∀ sc b x, chk T c sc b x = true → pT x = true) : Snd T c :=
  ⟨hE, fun {_ _ _ _} H0 ok b x h _ => ⟨pt_of (hE H0 ok b x h) (hp _ _ _ h), fun op es pos e => by subst e; have := hp _ _ _ h; simp [pT] at this⟩⟩
theorem lkC_vis {sc : Scope} {x : Str} (h : lkC sc x = true) : Vis sc x := by
  unfold lkC at h
  split at h
  · exact .inl (by assumption)
  · exact .inr (.inl (by assumption))
  · exact .inr (.inr (by assumption))
  · cases h
theorem plN_ok {x : Str} (h : plN x = true) : (x == ("__debug__" : Str)) = false ∧ (x == ("__classdict__" : Str)) = false ∧ x ≠ "__name__" := by
  unfold plN at h
  simp only [Bool.and_eq_true, Bool.not_eq_true'] at h
  exact ⟨h.1.1, h.1.2, fun z => by have := h.2; rw [z] at this; simp at this⟩
theorem starEach_ns {x : Expr} (h : notStar x = true) (r : List Expr) (env : Env) : starEach (x :: r) env = (false, eval x env) :: starEach r env := by
  cases x <;> first
    | rfl
    | (simp [notStar] at h; done)
theorem backTo_ns {pos : Pos} {env : Env} : ∀ {xs : List Expr}, xs.all notStar = true → (backTo pos (starEach xs env)).any (·.1) = false
  | [], _ => rfl
  | x :: r, h => by
    rw [List.all_cons, Bool.and_eq_true] at h
    rw [starEach_ns h.1]
    have ih := backTo_ns (pos := pos) (env := env) h.2
    unfold backTo at ih ⊢
    rw [List.map_cons, List.any_cons, ih]
    rfl
theorem chks_ns {T : Tx} : ∀ {cs : Cs} {sc : Scope} {b : Bool} {xs : List Expr}, chks T cs sc b xs = true → xs.all notStar = true
  | .nil, sc, b, xs, h => by
    unfold chks at h
    split at h
    · rfl
    · cases h
  | .cons c cs, sc, b, xs, h => by
    unfold chks at h
    split at h
    · simp only [Bool.and_eq_true] at h
      rw [List.all_cons, h.1.1, chks_ns h.2]
      rfl
    · cases h
section
variable {T : Tx}
theorem gl_ok {sc : Scope} {fc : Str → Bool} {X : Cx} {E : XK} {f : Str} (ok : CxOk T sc fc X E) (h : glC sc f = true) : Gl X f ∧ f ≠ "__name__" ∧ (f == ("__debug__" : Str)) = false := by
  unfold glC at h
  rw [Bool.and_eq_true] at h
  obtain ⟨p1, p2, p3⟩ := plN_ok h.2
  refine ⟨?_, p3, p1⟩
  have h1 := h.1
  split at h1
  · rename_i e
    show X.env.scope.names.lookup f = _
    rw [ok.hsc]
    exact e
  · cases h1
theorem bl_ok {sc : Scope} {fc : Str → Bool} {X : Cx} {E : XK} {f : Str} (ok : CxOk T sc fc X E) (h : blC T sc f = true) : Gl X f ∧ X.mg f = none ∧ f ≠ "__name__" ∧ (f == ("__debug__" : Str)) = false := by
  unfold blC at h
  rw [Bool.and_eq_true] at h
  obtain ⟨g, p1, p2⟩ := gl_ok ok h.1
  exact ⟨g, ok.tab.fre _ h.2, p1, p2⟩
theorem nm_ok {sc : Scope} {fc : Str → Bool} {X : Cx} {E : XK} {i : Nat} {n : Str} (ok : CxOk T sc fc X E) (h : nmC T sc i n = true) : X.N[i]? = some n ∧ Vis X.env.scope n ∧ (n == ("__debug__" : Str)) = false ∧ (n == ("__classdict__" : Str)) = false := by
  unfold nmC at h
  simp only [Bool.and_eq_true, decide_eq_true_eq] at h
  obtain ⟨p1, p2, _⟩ := plN_ok h.2
  exact ⟨by rw [ok.hN]; exact h.1.1, by rw [ok.hsc]; exact lkC_vis h.1.2, p1, p2⟩
theorem s_var (i : Nat) : Snd T (.var i) := by
  refine .plain (fun {sc fc X E} H0 ok b x h => ?_) (fun sc b x h => ?_)
  · unfold chk at h
    split at h
    · obtain ⟨h1, h2, h3, h4⟩ := nm_ok ok h
      refine toB (pe_imp (pe_var h1 h2 h3 h4) fun σ H Q ⟨e, st, p⟩ => ?_)
      rw [evE] at p
      obtain ⟨d, e1, q⟩ := p.ok (getV_ne e i)
      obtain ⟨v, e2, r⟩ := st.getV e1
      exact ⟨v, e2, q H (Same.refl _) v r⟩
    · cases h
  · unfold chk at h
    split at h
    · rfl
    · cases h
theorem s_bor (i : Nat) : Snd T (.bor i) := by
  refine .plain (fun {sc fc X E} H0 ok b x h => ?_) (fun sc b x h => ?_)
  · unfold chk at h
    split at h
    · rw [Bool.and_eq_true] at h
      obtain ⟨hb, h⟩ := h
      subst hb
      obtain ⟨h1, h2, h3, h4⟩ := nm_ok ok h
      refine pe_imp (pe_var h1 h2 h3 h4) fun σ H Q ⟨e, st, p⟩ => ?_
      rw [evE] at p
      obtain ⟨d, e1, q⟩ := p.ok (peek_ne e i)
      obtain ⟨v, e2, r⟩ := st.peek e1
      exact ⟨v, e2, q H (Same.refl _) v r⟩
    · cases h
  · unfold chk at h
    split at h
    · rfl
    · cases h
theorem s_int (k : Int) : Snd T (.int k) := by
  refine .plain (fun {sc fc X E} H0 ok b x h => ?_) (fun sc b x h => ?_)
  · unfold chk at h
    split at h
    · have e := of_decide_eq_true h
      subst e
      refine toB (pe_imp pe_int fun σ H Q ⟨e, st, p⟩ => ?_)
      rw [evE] at p
      exact p.now _ (.int k)
    · cases h
  · unfold chk at h
    split at h
    · rfl
    · cases h
theorem s_str (k : Str) : Snd T (.str k) := by
  refine .plain (fun {sc fc X E} H0 ok b x h => ?_) (fun sc b x h => ?_)
  · unfold chk at h
    split at h
    · have e := of_decide_eq_true h
      subst e
      refine toB (pe_imp pe_str fun σ H Q ⟨e, st, p⟩ => ?_)
      rw [evE] at p
      exact p.now _ (.str k)
    · cases h
  · unfold chk at h
    split at h
    · rfl
    · cases h
theorem s_bl (k : Bool) : Snd T (.bl k) := by
  refine .plain (fun {sc fc X E} H0 ok b x h => ?_) (fun sc b x h => ?_)
  · unfold chk at h
    split at h
    · have e := of_decide_eq_true h
      subst e
      refine toB (pe_imp pe_bl fun σ H Q ⟨e, st, p⟩ => ?_)
      rw [evE] at p
      exact p.now _ (.bl k)
    · cases h
  · unfold chk at h
    split at h
    · rfl
    · cases h
theorem s_non : Snd T .non := by
  refine .plain (fun {sc fc X E} H0 ok b x h => ?_) (fun sc b x h => ?_)
  · unfold chk at h
    split at h
    · refine toB (pe_imp pe_non fun σ H Q ⟨e, st, p⟩ => ?_)
      rw [evE] at p
      exact p.now _ .non
    · cases h
  · unfold chk at h
    split at h
    · rfl
    · cases h
theorem s_glo (n : Str) (d : PyData) : Snd T (.glo n d) := by
  refine .plain (fun {sc fc X E} H0 ok b x h => ?_) (fun sc b x h => ?_)
  · unfold chk at h
    split at h
    · rename_i m pos
      simp only [Bool.and_eq_true] at h
      obtain ⟨⟨h1, h2⟩, h3⟩ := h
      obtain ⟨g1, g2, g3⟩ := gl_ok ok h2
      split at h3
      · rename_i e' he
        obtain ⟨u, v, m1, r1, r2⟩ := ok.tab.cst _ d e' he h3
        refine toB (pe_imp (pe_glob g1 m1 r1 g3) fun σ H Q ⟨e, st, p⟩ => ?_)
        rw [evE] at p
        exact p.now _ (r2 H)
      · cases h3
    · cases h
  · unfold chk at h
    split at h
    · rfl
    · cases h
/-! lists of arguments -/
theorem s_nil : SndA T .nil := by
  intro sc fc X E H0 ok b x h
  unfold chks at h
  split at h
  · refine pa_imp pa_nil fun σ H Q ⟨e, st, p⟩ => ?_
    rw [evs] at p
    exact p.now _ relA_nil
  · cases h
theorem s_cons {c : C} {cs : Cs} (h1 : Snd T c) (h2 : SndA T cs) : SndA T (.cons c cs) := by
  intro sc fc X E H0 ok b x h
  unfold chks at h
  split at h
  · rename_i x r
    simp only [Bool.and_eq_true] at h
    obtain ⟨⟨k1, k2⟩, k3⟩ := h
    refine pa_imp (pa_cons (h1.1 H0 ok b _ k2) (h2 H0 ok b _ k3) (starEach_ns k1 _ _)) fun σ H Q ⟨e, st, p⟩ => ?_
    rw [evs] at p
    exact ⟨e, st, p.bind.imp fun d H1 s1 p1 v r1 => ⟨e, st.mono s1, p1.bind.imp fun ds H2 s2 p2 vs r2 => p2.now _ (relA_cons (r1.mono s2) r2)⟩⟩
  · cases h
theorem s_tup {es : Cs} (h1 : SndA T es) : Snd T (.tup es) := by
  refine .plain (fun {sc fc X E} H0 ok b x h => ?_) (fun sc b x h => ?_)
  · unfold chk at h
    split at h
    · refine toB (pe_imp (pe_tup (h1 H0 ok false _ h)) fun σ H Q ⟨e, st, p⟩ => ?_)
      rw [evE] at p
      refine ⟨e, st, p.bind.imp fun ds H1 s1 p1 vs r1 => ?_⟩
      obtain ⟨d, e1, q⟩ := p1.ok (tupD_ne ds)
      unfold tupD at e1
      split at e1
      · rename_i hz
        cases e1
        refine ⟨by rw [RpAll.length r1]; exact hz, fun p hp => new_tup hp r1 fun v H' s' r' => q H' s' v r'⟩
      · cases e1
    · cases h
  · unfold chk at h
    split at h
    · rfl
    · cases h
theorem s_lst {es : Cs} (h1 : SndA T es) : Snd T (.lst es) := by
  refine .plain (fun {sc fc X E} H0 ok b x h => ?_) (fun sc b x h => ?_)
  · unfold chk at h
    split at h
    · refine toB (pe_imp (pe_lk (pe_lst (h1 H0 ok false _ h))) fun σ H Q ⟨e, st, p⟩ => ?_)
      rw [evE] at p
      refine ⟨e, st, p.bind.imp fun ds H1 s1 p1 vs r1 => ?_⟩
      obtain ⟨d, e1, q⟩ := p1.ok (listD_ne ds)
      unfold listD at e1
      split at e1
      · rename_i hz
        cases e1
        exact ⟨by rw [RpAll.length r1]; exact hz, fun p hp => new_list hp r1 fun v H' s' r' => q H' s' v r'⟩
      · cases e1
    · cases h
  · unfold chk at h
    split at h
    · rfl
    · cases h
theorem s_rep {es : Cs} (k : Nat) (h1 : SndA T es) : Snd T (.rep es k) := by
  refine .plain (fun {sc fc X E} H0 ok b x h => ?_) (fun sc b x h => ?_)
  · unfold chk at h
    split at h
    · rename_i j _ _ _
      rw [Bool.and_eq_true] at h
      obtain ⟨h, hk⟩ := h
      have hk := of_decide_eq_true hk
      subst hk
      refine toB (pe_imp (pe_lk (pe_op op_rep (pe_lst (h1 H0 ok false _ h)) pe_int)) fun σ H Q ⟨e, st, p⟩ => ?_)
      rw [evE] at p
      refine ⟨e, st, p.bind.imp fun ds H1 s1 p1 vs r1 => ?_⟩
      obtain ⟨d, e1, q⟩ := p1.ok (fun _ => ne_ite)
      unfold repD at e1
      split at e1
      · rename_i hz
        cases e1
        have hl := RpAll.length r1
        refine ⟨by rw [hl]; exact hz.2.1, fun p hp => ⟨p, k, vs, rfl, rfl, upd_same, by omega, by omega, ?_, fun p2 hp2 => ?_⟩⟩
        · rw [hl]
          exact hz.1
        · have rr := (RpAll.mono (.of (same_new (o := .lst vs) hp)) r1).rep k
          exact new_list (H := upd H1 p (.lst vs)) hp2 rr fun v H' s' r' => q H' ((same_new hp).trans s') v r'
      · cases e1
    · cases h
  · unfold chk at h
    split at h
    · rfl
    · cases h
end
end Cg

set_option maxHeartbeats 1000000
namespace Cg
open PySem PySem.Spec PyProof.Rows L2
section
variable {T : Tx}
theorem s_bin (op : Operator) {a b' : C} (ha : Snd T a) (hb : Snd T b') : Snd T (.bin op a b') := by
  refine .plain (fun {sc fc X E} H0 ok b x h => ?_) (fun sc b x h => ?_)
  · unfold chk at h
    split at h
    · simp only [Bool.and_eq_true, decide_eq_true_eq] at h
      obtain ⟨⟨h1, h2⟩, h3⟩ := h
      subst h1
      refine toB (pe_imp (pe_op (op_bin op) (ha.1 H0 ok true _ h2) (hb.1 H0 ok true _ h3)) fun σ H Q ⟨e, st, p⟩ => ?_)
      rw [evE] at p
      refine ⟨e, st, p.bind.imp fun dx H1 s1 p1 v r1 => ⟨e, st.mono s1, p1.bind.imp fun dy H2 s2 p2 u r2 => ?_⟩⟩
      obtain ⟨d, ed, q⟩ := p2.ok (dBin_ne op dx dy)
      exact ⟨dx, dy, d, Rb.mono s2 r1, r2, ed, fun v H' s' r' => q H' s' v r'⟩
    · cases h
  · unfold chk at h
    split at h
    · rfl
    · cases h
theorem s_neg {a : C} (ha : Snd T a) : Snd T (.neg a) := by
  refine .plain (fun {sc fc X E} H0 ok b x h => ?_) (fun sc b x h => ?_)
  · unfold chk at h
    split at h
    · refine toB (pe_imp (pe_un un_neg (ha.1 H0 ok true _ h)) fun σ H Q ⟨e, st, p⟩ => ?_)
      rw [evE] at p
      refine ⟨e, st, p.bind.imp fun dx H1 s1 p1 v r1 => ?_⟩
      obtain ⟨i, ed, q⟩ := p1.bind.ok (asI_ne dx)
      have e2 := asI_ok ed
      subst e2
      exact ⟨i, (relq_rb r1).int, (q H1 (Same.refl _)).now _ (.int _)⟩
    · cases h
  · unfold chk at h
    split at h
    · rfl
    · cases h
theorem s_nt {a : C} (ha : Snd T a) : Snd T (.nt a) := by
  refine ⟨fun {sc fc X E} H0 ok b x h => ?_, fun {sc fc X E} H0 ok b x h ht => ?_⟩
  · unfold chk at h
    split at h
    · simp only [Bool.and_eq_true, decide_eq_true_eq] at h
      refine toB (pe_imp (pe_not (ha.1 H0 ok true _ h.1)) fun σ H Q ⟨e, st, p⟩ => ?_)
      rw [evE] at p
      refine ⟨e, st, p.bind.imp fun dx H1 s1 p1 v r1 => ?_⟩
      obtain ⟨i, ed, q⟩ := p1.bind.ok (asB_ne dx)
      have e2 := asB_ok ed
      subst e2
      exact ⟨i, (relq_rb r1).bl, (q H1 (Same.refl _)).now _ (.bl _)⟩
    · cases h
  · unfold chk at h
    split at h
    · simp only [Bool.and_eq_true, decide_eq_true_eq] at h
      refine ⟨pt_imp (pt_not (ha.2 H0 ok true _ h.1 h.2).1) fun σ H Q ⟨e, st, p⟩ => ?_, fun op es pos z => nomatch z⟩
      rw [evE] at p
      refine ⟨e, st, ?_⟩
      have p2 := p.bind
      revert p2
      cases ea : evE T.Γ a e with
      | ok d =>
        intro p2
        have p3 : Post X.K E H (((asB d).bind fun b => Res.ok (PyData.bool !b)).bind asB) (fun d H' => Q d H') := by
          rw [ea] at p
          exact p
        show Post X.K E H (asB d) _
        cases eb : asB d with
        | ok k => rw [eb] at p3; exact p3
        | exc k => exact absurd eb (asB_ne d k)
        | no => rw [eb] at p3; exact p3
      | exc k =>
        intro p2
        rw [ea] at p
        exact p
      | no =>
        intro p2
        rw [ea] at p
        exact p
    · cases h
theorem notSet_mark {op : CmpOp} {x : Expr} (h : notSet x = true) : behindInMarks op x = false := by
  cases x <;> first
    | rfl
    | (simp [notSet] at h; done)
theorem s_cmp (op : CmpOp) {a b' : C} (ha : Snd T a) (hb : Snd T b') : Snd T (.cmp op a b') := by
  have key : ∀ {K : PySem.W.Frag} {E : XK} {H0 : Hp} {σ : L2.St} {H : Hp} {Q : VK}, rd T.Γ K E H0 false (.cmp op a b') σ H Q → tOp (rCmp K op) (rd T.Γ K E H0 true a) (rd T.Γ K E H0 true b') σ H Q := by
    rintro K E H0 σ H Q ⟨e, st, p⟩
    rw [evE] at p
    refine ⟨e, st, p.bind.imp fun dx H1 s1 p1 v r1 => ⟨e, st.mono s1, p1.bind.imp fun dy H2 s2 p2 u r2 => ?_⟩⟩
    obtain ⟨d, ed, q⟩ := p2.bind.ok (dCmp_ne op dx dy)
    exact ⟨dx, dy, d, Rb.mono s2 r1, r2, ed, (q H2 (Same.refl _)).now _ (.bl _)⟩
  refine ⟨fun {sc fc X E} H0 ok b x h => ?_, fun {sc fc X E} H0 ok b x h ht => ?_⟩
  · unfold chk at h
    split at h
    · simp only [Bool.and_eq_true, decide_eq_true_eq] at h
      obtain ⟨⟨⟨h1, h2⟩, h3⟩, h4⟩ := h
      subst h1
      exact toB (pe_imp (pe_cmpR (op_cmpD ok.room.units op) (ha.1 H0 ok true _ h2) (hb.1 H0 ok true _ h3) (notSet_mark h4)) fun σ H Q z => key z)
    · cases h
  · unfold chk at h
    split at h
    · simp only [Bool.and_eq_true, decide_eq_true_eq] at h
      obtain ⟨⟨⟨h1, h2⟩, h3⟩, h4⟩ := h
      subst h1
      refine ⟨pt_imp (pt_cmpR (op_cmpD ok.room.units op) (ha.1 H0 ok true _ h2) (hb.1 H0 ok true _ h3) (notSet_mark h4)) fun σ H Q ⟨e, st, p⟩ => key ⟨e, st, p.bind.imp fun d H1 s1 p1 v r => ?_⟩, fun op es pos z => nomatch z⟩
      obtain ⟨k, e1, q⟩ := p1.ok (asB_ne d)
      have e2 := asB_ok e1
      subst e2
      cases r
      exact ⟨k, rfl, q H1 (Same.refl _)⟩
    · cases h
theorem s_inr {a n : C} (ha : Snd T a) (hn : Snd T n) : Snd T (.inr a n) := by
  have key : ∀ {K : PySem.W.Frag} {E : XK} {H0 : Hp} {σ : L2.St} {H : Hp} {Q : VK}, rd T.Γ K E H0 false (.inr a n) σ H Q →
      rd T.Γ K E H0 true a σ H fun x H1 => rd T.Γ K E H0 true n σ H1 fun v H2 => ∃ j, [v] = [V.int j] ∧ ∀ p, H2 p = none → ∃ i a lo hi, x = V.int i ∧ V.ref p = V.ref a ∧ upd H2 p (.rng 0 j) a = some (.rng lo hi) ∧ Q (.bl (decide (lo ≤ i ∧ i < hi))) (upd H2 p (.rng 0 j)) := by
    rintro K E H0 σ H Q ⟨e, st, p⟩
    rw [evE] at p
    refine ⟨e, st, p.bind.imp fun dx H1 s1 p1 x rx => ?_⟩
    obtain ⟨i, ei, p2⟩ := p1.bind.ok (asI_ne dx)
    have ei := asI_ok ei
    subst ei
    refine ⟨e, st.mono s1, (p2 H1 (Same.refl _)).bind.imp fun dn H2 s2 p3 v rv => ?_⟩
    obtain ⟨j, ej, p4⟩ := p3.bind.ok (asI_ne dn)
    have ej := asI_ok ej
    subst ej
    have rx : Rb K H1 x (.int i) := rx
    have rv : Rb K H2 v (.int j) := rv
    refine ⟨j, by rw [rv.int], fun p hp => ⟨i, p, 0, j, rx.int, rfl, upd_same, ?_⟩⟩
    exact (p4 H2 (Same.refl _)) _ (same_new hp) _ (.bl _)
  have pe : ∀ {sc : Scope} {fc : Str → Bool} {X : Cx} {E : XK} (H0 : Hp) (ok : CxOk T sc fc X E) {f : Str} {xn : Expr} {p q : Pos}, f = "range" → blC T sc f = true → chk T n sc true xn = true → notStar xn = true →
      PE X (.Call (.Name f p) [xn] [] q) (fun σ H Q => rd T.Γ X.K E H0 true n σ H fun v H2 => ∃ j, [v] = [V.int j] ∧ ∀ p, H2 p = none → Q (.ref p) (upd H2 p (.rng 0 j))) := by
    intro sc fc X E H0 ok f xn p q e1 e2 e3 e4
    subst e1
    obtain ⟨g1, g2, g3, g4⟩ := bl_ok ok e2
    exact pe_callTy (pos := q) (p := p) cr_range1 g1 g2 (by decide +kernel) (pa_cons (hn.1 H0 ok true _ e3) pa_nil (starEach_ns e4 _ _)) g3 g4 (he := starEach_ns e4 _ _)
  refine ⟨fun {sc fc X E} H0 ok b x h => ?_, fun {sc fc X E} H0 ok b x h ht => ?_⟩
  · unfold chk at h
    split at h
    · simp only [Bool.and_eq_true, decide_eq_true_eq] at h
      obtain ⟨⟨⟨⟨h1, h2⟩, h3⟩, h4⟩, h5⟩ := h
      exact toB (pe_imp (pe_cmpR op_in_rng (ha.1 H0 ok true _ h3) (pe H0 ok h1 h2 h4 h5) rfl) fun σ H Q z => key z)
    · cases h
  · unfold chk at h
    split at h
    · simp only [Bool.and_eq_true, decide_eq_true_eq] at h
      obtain ⟨⟨⟨⟨h1, h2⟩, h3⟩, h4⟩, h5⟩ := h
      refine ⟨pt_imp (pt_cmpR op_in_rng (ha.1 H0 ok true _ h3) (pe H0 ok h1 h2 h4 h5) rfl) fun σ H Q ⟨e, st, p⟩ => key (Q := fun x H' => ∃ k, x = V.bl k ∧ Q k H') ⟨e, st, p.bind.imp fun d H1 s1 p1 v r => ?_⟩, fun op es pos z => nomatch z⟩
      obtain ⟨k, e1, q⟩ := p1.ok (asB_ne d)
      have e2 := asB_ok e1
      subst e2
      cases r
      exact ⟨k, rfl, q H1 (Same.refl _)⟩
    · cases h
theorem s_chn (op op' : CmpOp) {a b' c : C} (ha : Snd T a) (hb : Snd T b') (hc : Snd T c) : Snd T (.chn op op' a b' c) := by
  have key : ∀ {K : PySem.W.Frag} {E : XK} {H0 : Hp} {σ : L2.St} {H : Hp} {Q : VK}, rd T.Γ K E H0 false (.chn op op' a b' c) σ H Q → tChain (rCmp K op) (rCmp K op') (rd T.Γ K E H0 true a) (rd T.Γ K E H0 true b') (rd T.Γ K E H0 true c) σ H Q := by
    rintro K E H0 σ H Q ⟨e, st, p⟩
    rw [evE] at p
    refine ⟨e, st, p.bind.imp fun dx H1 s1 p1 v r1 => ⟨e, st.mono s1, p1.bind.imp fun dy H2 s2 p2 u r2 => ?_⟩⟩
    obtain ⟨d, ed, q⟩ := p2.bind.ok (dCmp_ne op dx dy)
    have q := q H2 (Same.refl _)
    refine ⟨dx, dy, d, Rb.mono s2 r1, r2, ed, d, rfl, ?_⟩
    cases d with
    | false => exact q.now _ (.bl _)
    | true =>
      rw [if_pos rfl] at q ⊢
      refine ⟨e, (st.mono s1).mono s2, q.bind.imp fun dz H3 s3 p3 w r3 => ?_⟩
      obtain ⟨d, ed, q⟩ := p3.bind.ok (dCmp_ne op' dy dz)
      exact ⟨dy, dz, d, Rb.mono s3 r2, r3, ed, (q H3 (Same.refl _)).now _ (.bl _)⟩
  have mark : ∀ {o o' : CmpOp} {xb xc : Expr}, notSet xc = true → lastMarks [o, o'] [xb, xc] = false := fun {o o' xb xc} z => notSet_mark (op := o') z
  refine ⟨fun {sc fc X E} H0 ok b x h => ?_, fun {sc fc X E} H0 ok b x h ht => ?_⟩
  · unfold chk at h
    split at h
    · simp only [Bool.and_eq_true, decide_eq_true_eq] at h
      obtain ⟨⟨⟨⟨⟨h1, h1'⟩, h2⟩, h3⟩, h3'⟩, h4⟩ := h
      subst h1 h1'
      exact toB (pe_imp (pe_chain (op_cmpD ok.room.units op) (op_cmpD ok.room.units op') (ha.1 H0 ok true _ h2) (hb.1 H0 ok true _ h3) (hc.1 H0 ok true _ h3') (mark h4)) fun σ H Q z => key z)
    · cases h
  · unfold chk at h
    split at h
    · simp only [Bool.and_eq_true, decide_eq_true_eq] at h
      obtain ⟨⟨⟨⟨⟨h1, h1'⟩, h2⟩, h3⟩, h3'⟩, h4⟩ := h
      subst h1 h1'
      refine ⟨pt_imp (pt_chain (op_cmpD ok.room.units op) (op_cmpD ok.room.units op') (ha.1 H0 ok true _ h2) (hb.1 H0 ok true _ h3) (hc.1 H0 ok true _ h3') (mark h4)) fun σ H Q ⟨e, st, p⟩ => key ⟨e, st, p.bind.imp fun d H1 s1 p1 v r => ?_⟩, fun op es pos z => nomatch z⟩
      obtain ⟨k, e1, q⟩ := p1.ok (asB_ne d)
      have e2 := asB_ok e1
      subst e2
      cases r
      exact ⟨k, rfl, q H1 (Same.refl _)⟩
    · cases h
theorem asB_resB (r : Res Bool) : (resB r).bind asB = r := by cases r <;> rfl
/-! and, or -/
theorem s_and1 {a : C} (ha : Snd T a) : Snd T (.and1 a) := by
  refine ⟨fun {sc fc X E} H0 ok b x h => ?_, fun {sc fc X E} H0 ok b x h ht => ?_⟩
  · unfold chk at h
    split at h
    · simp only [Bool.and_eq_true] at h
      refine pe_imp (pe_one (ha.1 H0 ok b _ h.1)) fun σ H Q ⟨e, st, p⟩ => ?_
      rw [evE] at p
      exact ⟨e, st, p⟩
    · cases h
  · unfold chk at h
    split at h
    · simp only [Bool.and_eq_true] at h
      have w := pw_imp (pw_and1 (pos := by assumption) (ha.2 H0 ok b _ h.1 h.2).1) (fun σ H Q => show rdT T.Γ X.K E H0 (.and1 a) σ H Q → _ from fun ⟨e, st, p⟩ => by
        rw [evE] at p
        exact ⟨e, st, p⟩)
      exact ⟨w.pt, fun op es pos z => by cases z; exact w⟩
    · cases h
theorem s_or1 {a : C} (ha : Snd T a) : Snd T (.or1 a) := by
  refine ⟨fun {sc fc X E} H0 ok b x h => ?_, fun {sc fc X E} H0 ok b x h ht => ?_⟩
  · unfold chk at h
    split at h
    · simp only [Bool.and_eq_true] at h
      refine pe_imp (pe_one (ha.1 H0 ok b _ h.1)) fun σ H Q ⟨e, st, p⟩ => ?_
      rw [evE] at p
      exact ⟨e, st, p⟩
    · cases h
  · unfold chk at h
    split at h
    · simp only [Bool.and_eq_true] at h
      have w := pw_imp (pw_or1 (pos := by assumption) (ha.2 H0 ok b _ h.1 h.2).1) (fun σ H Q => show rdT T.Γ X.K E H0 (.or1 a) σ H Q → _ from fun ⟨e, st, p⟩ => by
        rw [evE] at p
        exact ⟨e, st, p⟩)
      exact ⟨w.pt, fun op es pos z => by cases z; exact w⟩
    · cases h
theorem tst_bop {T : Tx} {c : C} {sc : Scope} {b : Bool} {op : BoolOp} {es : List Expr} {p : Pos} (h : chk T c sc b (.BoolOp op es p) = true) : tstC c = true := by
  cases c <;> first
    | rfl
    | (unfold chk at h; cases h)
theorem s_and {a b' : C} (ha : Snd T a) (hb : Snd T b') : Snd T (.and a b') := by
  refine ⟨fun {sc fc X E} H0 ok b x h => ?_, fun {sc fc X E} H0 ok b x h ht => ?_⟩
  · unfold chk at h
    split at h
    · simp only [Bool.and_eq_true] at h
      obtain ⟨⟨h1, h2⟩, h3⟩ := h
      refine toB (pe_imp (pe_and (ha.1 H0 ok true _ h1) (hb.1 H0 ok true _ h3)) fun σ H Q ⟨e, st, p⟩ => ?_)
      rw [evE] at p
      refine ⟨e, st, p.bind.imp fun dx H1 s1 p1 v r1 => ?_⟩
      obtain ⟨k, ed, q⟩ := p1.bind.ok (asB_ne dx)
      have q := q H1 (Same.refl _)
      have e2 := asB_ok ed
      subst e2
      refine ⟨k, (relq_rb r1).bl, ?_⟩
      cases k with
      | false => exact q.now _ (.bl _)
      | true =>
        rw [if_pos rfl] at q ⊢
        refine ⟨e, st.mono s1, q.bind.imp fun dy H2 s2 p2 u r2 => ?_⟩
        obtain ⟨k, ed, q⟩ := p2.bind.ok (asB_ne dy)
        have e2 := asB_ok ed
        subst e2
        rw [(relq_rb r2).bl]
        exact (q H2 (Same.refl _)).now _ (.bl _)
    · cases h
  · unfold chk at h
    split at h
    · simp only [Bool.and_eq_true] at h
      obtain ⟨⟨h1, h2⟩, h3⟩ := h
      have w := pw_imp (pw_and (ha.2 H0 ok true _ h1 h2).1 ((hb.2 H0 ok true _ h3 (tst_bop h3)).2 _ _ _ rfl)) (fun σ H Q => show rdT T.Γ X.K E H0 (.and a b') σ H Q → _ from fun ⟨e, st, p⟩ => by
        rw [evE] at p
        refine ⟨e, st, ?_⟩
        cases ea : evE T.Γ a e with
        | ok d =>
          rw [ea] at p
          have p : Post X.K E H (((asB d).bind fun k => if k = true then (evE T.Γ b' e).bind fun y => resB (asB y) else Res.ok (PyData.bool false)).bind asB) (fun d H' => Q d H') := p
          show Post X.K E H (asB d) _
          cases eb : asB d with
          | ok k =>
            rw [eb] at p
            intro H1 s1
            cases k with
            | false => exact p H1 s1
            | true =>
              rw [if_pos rfl]
              refine ⟨e, st.mono s1, ?_⟩
              have p : Post X.K E H (((evE T.Γ b' e).bind fun y => resB (asB y)).bind asB) (fun d H' => Q d H') := p
              have p := p.mono s1
              cases ey : evE T.Γ b' e with
              | ok y =>
                rw [ey] at p
                have p : Post X.K E H1 ((resB (asB y)).bind asB) (fun d H' => Q d H') := p
                rw [asB_resB] at p
                exact p
              | exc k => rw [ey] at p; exact p
              | no => rw [ey] at p; exact p
          | exc k => exact absurd eb (asB_ne d k)
          | no => rw [eb] at p; exact p
        | exc k => rw [ea] at p; exact p
        | no => rw [ea] at p; exact p)
      exact ⟨w.pt, fun op es pos z => by cases z; exact w⟩
    · cases h
theorem s_or {a b' : C} (ha : Snd T a) (hb : Snd T b') : Snd T (.or a b') := by
  refine ⟨fun {sc fc X E} H0 ok b x h => ?_, fun {sc fc X E} H0 ok b x h ht => ?_⟩
  · unfold chk at h
    split at h
    · simp only [Bool.and_eq_true] at h
      obtain ⟨⟨h1, h2⟩, h3⟩ := h
      refine toB (pe_imp (pe_or (ha.1 H0 ok true _ h1) (hb.1 H0 ok true _ h3)) fun σ H Q ⟨e, st, p⟩ => ?_)
      rw [evE] at p
      refine ⟨e, st, p.bind.imp fun dx H1 s1 p1 v r1 => ?_⟩
      obtain ⟨k, ed, q⟩ := p1.bind.ok (asB_ne dx)
      have q := q H1 (Same.refl _)
      have e2 := asB_ok ed
      subst e2
      refine ⟨k, (relq_rb r1).bl, ?_⟩
      cases k with
      | true => exact q.now _ (.bl _)
      | false =>
        rw [if_neg (by decide)] at q ⊢
        refine ⟨e, st.mono s1, q.bind.imp fun dy H2 s2 p2 u r2 => ?_⟩
        obtain ⟨k, ed, q⟩ := p2.bind.ok (asB_ne dy)
        have e2 := asB_ok ed
        subst e2
        rw [(relq_rb r2).bl]
        exact (q H2 (Same.refl _)).now _ (.bl _)
    · cases h
  · unfold chk at h
    split at h
    · simp only [Bool.and_eq_true] at h
      obtain ⟨⟨h1, h2⟩, h3⟩ := h
      have w := pw_imp (pw_or (ha.2 H0 ok true _ h1 h2).1 ((hb.2 H0 ok true _ h3 (tst_bop h3)).2 _ _ _ rfl)) (fun σ H Q => show rdT T.Γ X.K E H0 (.or a b') σ H Q → _ from fun ⟨e, st, p⟩ => by
        rw [evE] at p
        refine ⟨e, st, ?_⟩
        cases ea : evE T.Γ a e with
        | ok d =>
          rw [ea] at p
          have p : Post X.K E H (((asB d).bind fun k => if k = true then Res.ok (PyData.bool true) else (evE T.Γ b' e).bind fun y => resB (asB y)).bind asB) (fun d H' => Q d H') := p
          show Post X.K E H (asB d) _
          cases eb : asB d with
          | ok k =>
            rw [eb] at p
            intro H1 s1
            cases k with
            | true => exact p H1 s1
            | false =>
              rw [if_neg (by decide)]
              refine ⟨e, st.mono s1, ?_⟩
              have p : Post X.K E H (((evE T.Γ b' e).bind fun y => resB (asB y)).bind asB) (fun d H' => Q d H') := p
              have p := p.mono s1
              cases ey : evE T.Γ b' e with
              | ok y =>
                rw [ey] at p
                have p : Post X.K E H1 ((resB (asB y)).bind asB) (fun d H' => Q d H') := p
                rw [asB_resB] at p
                exact p
              | exc k => rw [ey] at p; exact p
              | no => rw [ey] at p; exact p
          | exc k => exact absurd eb (asB_ne d k)
          | no => rw [eb] at p; exact p
        | exc k => rw [ea] at p; exact p
        | no => rw [ea] at p; exact p)
      exact ⟨w.pt, fun op es pos z => by cases z; exact w⟩
    · cases h
theorem s_ife {c a d : C} (hc : Snd T c) (ha : Snd T a) (hd : Snd T d) : Snd T (.ife c a d) := by
  refine ⟨fun {sc fc X E} H0 ok b x h => ?_, fun {sc fc X E} H0 ok b x h ht => by cases ht⟩
  unfold chk at h
  split at h
  · simp only [Bool.and_eq_true] at h
    obtain ⟨⟨⟨h1, h2⟩, h3⟩, h4⟩ := h
    refine pe_imp (pe_ifExp (hc.2 H0 ok true _ h1 h2).1 (ha.1 H0 ok b _ h3) (hd.1 H0 ok b _ h4)) fun σ H Q ⟨e, st, p⟩ => ?_
    rw [evE] at p
    refine ⟨e, st, ?_⟩
    cases ec : evE T.Γ c e with
    | ok dx =>
      rw [ec] at p
      have p : Post X.K E H ((asB dx).bind fun k => if k = true then evE T.Γ a e else evE T.Γ d e) (fun d H' => ∀ v, relq b X.K H' v d → Q v H') := p
      show Post X.K E H (asB dx) _
      refine p.bind.imp fun k H1 s1 p1 => ?_
      cases k with
      | true => exact ⟨e, st.mono s1, p1⟩
      | false => exact ⟨e, st.mono s1, p1⟩
    | exc k => rw [ec] at p; exact p
    | no => rw [ec] at p; exact p
  · cases h
end
end Cg

set_option maxHeartbeats 1000000
namespace Cg
open PySem PySem.Spec PyProof.Rows L2
section
variable {T : Tx}
theorem plainIx_ok {x : Expr} (h : plainIxB x = true) : PlainIx x := by
  intro o i
  cases x <;> first
    | rfl
    | (simp [plainIxB] at h; done)
    | (rename_i k _ _; cases k <;> first
      | rfl
      | (simp [plainIxB] at h; done))
theorem s_ix {a i : C} (ha : Snd T a) (hi : Snd T i) : Snd T (.ix a i) := by
  refine .plain (fun {sc fc X E} H0 ok b x h => ?_) (fun sc b x h => ?_)
  · unfold chk at h
    split at h
    · simp only [Bool.and_eq_true] at h
      obtain ⟨⟨h1, h2⟩, h3⟩ := h
      refine toB (pe_imp (pe_ix (ix_data ok.room.units) (ha.1 H0 ok true _ h1) (hi.1 H0 ok true _ h2) (plainIx_ok h3)) fun σ H Q ⟨e, st, p⟩ => ?_)
      rw [evE] at p
      refine ⟨e, st, p.bind.imp fun dx H1 s1 p1 v r1 => ⟨e, st.mono s1, p1.bind.imp fun dy H2 s2 p2 u r2 => ?_⟩⟩
      obtain ⟨d, ed, q⟩ := p2.ok (dIx_ne dx dy)
      exact ⟨dx, dy, d, Rb.mono s2 r1, r2, ed, fun v r' => q H2 (Same.refl _) v r'⟩
    · cases h
  · unfold chk at h
    split at h
    · rfl
    · cases h
theorem s_onone : SndO T .none := by
  intro sc fc X E H0 ok x h
  unfold chkO at h
  split at h
  · refine ⟨fun pins s σ H Q I ⟨e, st, p⟩ => po_none.run pins s σ H Q I ?_⟩
    rw [evO] at p
    exact p.now
  · cases h
theorem s_osome {c : C} (hc : Snd T c) : SndO T (.some c) := by
  intro sc fc X E H0 ok x h
  unfold chkO at h
  split at h
  · refine ⟨fun pins s σ H Q I ⟨e, st, p⟩ => (po_some (hc.1 H0 ok true _ h)).run pins s σ H Q I ?_⟩
    rw [evO] at p
    refine ⟨e, st, p.bind.imp fun dx H1 s1 p1 v r1 => ?_⟩
    obtain ⟨i, ed, q⟩ := p1.bind.ok (asI_ne dx)
    have e2 := asI_ok ed
    subst e2
    exact ⟨i, (relq_rb r1).int, (q H1 (Same.refl _)).now⟩
  · cases h
theorem s_slc {a : C} {lo hi : Op} (ha : Snd T a) (hl : SndO T lo) (hh : SndO T hi) : Snd T (.slc a lo hi) := by
  refine .plain (fun {sc fc X E} H0 ok b x h => ?_) (fun sc b x h => ?_)
  · unfold chk at h
    split at h
    · simp only [Bool.and_eq_true] at h
      obtain ⟨⟨h1, h2⟩, h3⟩ := h
      refine toB (pe_imp (pe_slice sl_data (ha.1 H0 ok true _ h1) (hl H0 ok _ h2) (hh H0 ok _ h3)) fun σ H Q ⟨e, st, p⟩ => ?_)
      rw [evE] at p
      refine ⟨e, st, p.bind.imp fun dx H1 s1 p1 v r1 => ⟨e, st.mono s1, p1.bind.imp fun l H2 s2 p2 => ⟨e, (st.mono s1).mono s2, p2.bind.imp fun u H3 s3 p3 => ?_⟩⟩⟩
      obtain ⟨d, ed, q⟩ := p3.ok (dSlc_ne dx l u)
      exact ⟨dx, d, (Rb.mono s3 (Rb.mono s2 r1)), ed, fun v H' s' r' => q H' s' v r'⟩
    · cases h
  · unfold chk at h
    split at h
    · rfl
    · cases h
theorem s_rev {a : C} (ha : Snd T a) : Snd T (.rev a) := by
  refine .plain (fun {sc fc X E} H0 ok b x h => ?_) (fun sc b x h => ?_)
  · unfold chk at h
    split at h
    · simp only [Bool.and_eq_true, decide_eq_true_eq] at h
      obtain ⟨hj, h1⟩ := h
      subst hj
      refine toB (pe_imp (pe_lk (pe_revL (ha.1 H0 ok true _ h1))) fun σ H Q ⟨e, st, p⟩ => ?_)
      rw [evE] at p
      refine ⟨e, st, p.bind.imp fun dx H1 s1 p1 v r1 => ?_⟩
      obtain ⟨d, ed, q⟩ := p1.ok (dRev_ne dx)
      unfold dRev at ed
      split at ed
      · cases ed
        obtain ⟨a, xs, rfl, h2, r2⟩ := (relq_rb r1).list
        exact ⟨a, xs, rfl, h2, fun p hp => new_list hp r2.reverse fun v H' s' r' => q H' s' v r'⟩
      · cases ed
    · cases h
  · unfold chk at h
    split at h
    · rfl
    · cases h
theorem s_isi (t : Ty) {a : C} (ha : Snd T a) : Snd T (.isi t a) := by
  refine .plain (fun {sc fc X E} H0 ok b x h => ?_) (fun sc b x h => ?_)
  · unfold chk at h
    split at h
    · simp only [Bool.and_eq_true, decide_eq_true_eq] at h
      obtain ⟨⟨⟨⟨⟨h1, h2⟩, h3⟩, h4⟩, h5⟩, h6⟩ := h
      subst h1 h3
      obtain ⟨g1, g2, g3, g4⟩ := bl_ok ok h2
      obtain ⟨k1, k2, k3, k4⟩ := bl_ok ok h4
      have hv : bootBuiltins (tyN t : Str) = some (.type (tyN t)) := by cases t <;> decide +kernel
      have hn : ∀ p, PE X (.Name (tyN t : Str) p) (tC (.ty (tyN t))) := fun p => pe_bltn k1 k2 hv rfl k3 k4
      refine toB (pe_imp (pe_callB (call_isiD t) g1 g2 boot_isinstance (pa_cons (ha.1 H0 ok true _ h5) (pa_cons (hn _) pa_nil) (starEach_ns h6 _ _)) g3 g4 (starEach_ns h6 _ _)) fun σ H Q ⟨e, st, p⟩ => ?_)
      rw [evE] at p
      refine ⟨e, st, p.bind.imp fun dx H1 s1 p1 v r1 => ?_⟩
      obtain ⟨d, ed, q⟩ := p1.ok (dIsi_ne t dx)
      exact ⟨v, dx, d, rfl, relq_rb r1, ed, fun w r => q H1 (Same.refl _) w r⟩
    · cases h
  · unfold chk at h
    split at h
    · rfl
    · cases h
theorem chks_cons {T : Tx} {es : Cs} {sc : Scope} {b : Bool} {x : Expr} {r : List Expr} (h : chks T es sc b (x :: r) = true) : notStar x = true ∧ r.all notStar = true := by
  have := chks_ns h
  rw [List.all_cons, Bool.and_eq_true] at this
  exact this
theorem evs_len {Γ : Tb} : ∀ {es : Cs} {e : Ev} {ds : List PyData}, evs Γ es e = .ok ds → ds.length = clen es
  | .nil, e, ds, h => by
    rw [evs] at h
    cases h
    rfl
  | .cons c cs, e, ds, h => by
    rw [evs] at h
    cases h1 : evE Γ c e with
    | ok d =>
      rw [h1] at h
      have h : ((evs Γ cs e).bind fun xs => Res.ok (d :: xs)) = .ok ds := h
      cases h2 : evs Γ cs e with
      | ok xs =>
        rw [h2] at h
        cases h
        rw [List.length_cons, evs_len h2]
        rfl
      | exc k => rw [h2] at h; cases h
      | no => rw [h2] at h; cases h
    | exc k => rw [h1] at h; cases h
    | no => rw [h1] at h; cases h
theorem s_call (k : Nat) {es : Cs} (h1 : SndA T es) : Snd T (.call k es) := by
  refine .plain (fun {sc fc X E} H0 ok b x h => ?_) (fun sc b x h => ?_)
  · unfold chk at h
    split at h
    · rename_i f fp xs pos
      simp only [Bool.and_eq_true, decide_eq_true_eq] at h
      obtain ⟨⟨⟨⟨e1, e2⟩, e3⟩, e4⟩, e5⟩ := h
      subst e1
      obtain ⟨g1, g2, g3⟩ := gl_ok ok e2
      obtain ⟨fa, fd, ps, F, m, kp, bd⟩ := ok.tab.fn k e3
      have key : ∀ {σ : L2.St} {H : Hp} {Q : VK} (_ : rd T.Γ X.K E H0 false (.call k es) σ H Q), tCall (spF X.K (T.Γ k)) [] E (rdA T.Γ X.K E H0 false es) σ H Q := by
        rintro σ H Q ⟨e, st, p⟩
        rw [evE] at p
        refine ⟨e, st, p.bind.imp' fun ds H1 ee s1 p1 vs r1 => ?_⟩
        show spF X.K (T.Γ k) (vs ++ []) H1 Q E
        rw [List.append_nil]
        refine ⟨?_, ds, r1, p1⟩
        rw [RpAll.length r1, evs_len ee, e5]
      have pa := h1 H0 ok false _ e4
      cases xs with
      | nil =>
        refine toB (pe_imp (pe_call0 F (ok.room.mono e3) g1 m kp bd .nil ok.pass.calls g3) fun σ H Q z => ?_)
        obtain ⟨e, st, p⟩ := z
        cases es with
        | nil =>
          rw [evE] at p
          refine ⟨by rw [← e5]; rfl, [], .nil, ?_⟩
          have p : Post X.K E H ((evs T.Γ .nil e).bind fun ds => (T.Γ k).run ds) (fun d H' => ∀ v, relq false X.K H' v d → Q v H') := p
          rw [evs] at p
          exact p
        | cons c cs =>
          unfold chks at e4
          cases e4
      | cons xa xs =>
        obtain ⟨n1, n2⟩ := chks_cons e4
        exact toB (pe_imp (pe_call F (ok.room.mono e3) g1 m kp bd .nil ok.pass.calls pa g3 (starEach_ns n1 _ _) (backTo_ns n2)) fun σ H Q z => key z)
    · cases h
  · unfold chk at h
    split at h
    · rfl
    · cases h
theorem boot_bi (f : Bi) : bootBuiltins (biN f) = some (biV f) := by cases f <;> decide +kernel
theorem biV_cases (f : Bi) : (∃ id, biV f = .builtin id) ∨ ∃ t, biV f = .type t := by cases f <;> first | exact .inl ⟨_, rfl⟩ | exact .inr ⟨_, rfl⟩
theorem s_blt (f : Bi) {es : Cs} (h1 : SndA T es) : Snd T (.blt f es) := by
  refine .plain (fun {sc fc X E} H0 ok b x h => ?_) (fun sc b x h => ?_)
  · unfold chk at h
    split at h
    · rename_i n fp xa xs pos
      simp only [Bool.and_eq_true, decide_eq_true_eq] at h
      obtain ⟨⟨e1, e2⟩, e3⟩ := h
      subst e1
      obtain ⟨g1, g2, g3, g4⟩ := bl_ok ok e2
      obtain ⟨n1, n2⟩ := chks_cons e3
      have pa := h1 H0 ok true _ e3
      have key : ∀ {σ : L2.St} {H : Hp} {Q : VK} (_ : rd T.Γ X.K E H0 false (.blt f es) σ H Q), tCB (rBlt X.K f) (rdA T.Γ X.K E H0 true es) σ H Q := by
        rintro σ H Q ⟨e, st, p⟩
        rw [evE] at p
        refine ⟨e, st, p.bind.imp fun ds H1 s1 p1 vs r1 => ?_⟩
        obtain ⟨d, ed, q⟩ := p1.ok (dBlt_ne f ds)
        exact ⟨ds, d, r1, ed, fun v H' s' r' => q H' s' v r'⟩
      have cb := call_bi (X := X) ok.calm ok.room.units f
      have bt := boot_bi f
      rcases biV_cases f with ⟨id, eb⟩ | ⟨t, eb⟩
      · rw [eb] at cb bt
        exact toB (pe_imp (pe_callB cb g1 g2 bt pa g3 g4 (starEach_ns n1 _ _) (backTo_ns n2)) fun σ H Q z => key z)
      · rw [eb] at cb bt
        exact toB (pe_imp (pe_callTy cb g1 g2 bt pa g3 g4 (starEach_ns n1 _ _) (backTo_ns n2)) fun σ H Q z => key z)
    · cases h
  · unfold chk at h
    split at h
    · rfl
    · cases h
theorem rd_mono {Γ : Tb} {K : PySem.W.Frag} {E : XK} {H0 : Hp} {b : Bool} {c : C} (σ : L2.St) (H : Hp) (Q Q' : VK) (i : ∀ v H', Q v H' → Q' v H') (h : rd Γ K E H0 b c σ H Q) : rd Γ K E H0 b c σ H Q' := by
  obtain ⟨e, st, p⟩ := h
  exact ⟨e, st, p.imp fun d H' _ q v r => i _ _ (q v r)⟩
theorem s_sset {a : C} (ha : Snd T a) : Snd T (.sset a) := by
  refine .plain (fun {sc fc X E} H0 ok b x h => ?_) (fun sc b x h => ?_)
  · unfold chk at h
    split at h
    · simp only [Bool.and_eq_true, decide_eq_true_eq] at h
      obtain ⟨⟨⟨⟨⟨e1, e2⟩, e3⟩, e4⟩, e5⟩, e6⟩ := h
      subst e1 e3
      obtain ⟨g1, g2, g3, g4⟩ := bl_ok ok e2
      obtain ⟨k1, k2, k3, k4⟩ := bl_ok ok e4
      refine toB (pe_imp (pe_sset ok.calm ok.room.units g1 g2 k1 k2 (ha.1 H0 ok true _ e5) (starEach_ns e6 _ _) (fun σ H Q Q' i h => rd_mono σ H Q Q' i h)) fun σ H Q ⟨e, st, p⟩ => ?_)
      rw [evE] at p
      refine ⟨e, st, p.bind.imp fun dx H1 s1 p1 v r1 => ?_⟩
      obtain ⟨d, ed, q⟩ := p1.ok (dSset_ne dx)
      cases dx with
      | list ds => exact ⟨ds, d, r1, ed, fun w H' s' r' => q H' s' w r'⟩
      | _ => cases ed
    · cases h
  · unfold chk at h
    split at h
    · rfl
    · cases h
theorem s_lset {a : C} (ha : Snd T a) : Snd T (.lset a) := by
  refine .plain (fun {sc fc X E} H0 ok b x h => ?_) (fun sc b x h => ?_)
  · unfold chk at h
    split at h
    · simp only [Bool.and_eq_true, decide_eq_true_eq] at h
      obtain ⟨⟨⟨⟨⟨e1, e2⟩, e3⟩, e4⟩, e5⟩, e6⟩ := h
      subst e1 e3
      obtain ⟨g1, g2, g3, g4⟩ := bl_ok ok e2
      obtain ⟨k1, k2, k3, k4⟩ := bl_ok ok e4
      refine toB (pe_imp (pe_lset ok.calm ok.room.units g1 g2 k1 k2 (ha.1 H0 ok true _ e5) (starEach_ns e6 _ _) (fun σ H Q Q' i h => rd_mono σ H Q Q' i h)) fun σ H Q ⟨e, st, p⟩ => ?_)
      rw [evE] at p
      refine ⟨e, st, p.bind.imp fun dx H1 s1 p1 v r1 => ?_⟩
      obtain ⟨d, ed, q⟩ := p1.ok (dLset_ne dx)
      cases dx with
      | list ds => exact ⟨ds, d, r1, ed, fun w H' s' r' => q H' s' w r'⟩
      | _ => cases ed
    · cases h
  · unfold chk at h
    split at h
    · rfl
    · cases h
theorem s_no {c : C} (h : ∀ sc b x, chk T c sc b x = false) : Snd T c :=
  ⟨fun {_ _ _ _} _ _ b x k => (by rw [h] at k; cases k), fun {_ _ _ _} _ _ b x k => (by rw [h] at k; cases k)⟩
end
end Cg

set_option maxHeartbeats 1000000
namespace Cg
open PySem PySem.Spec PyProof.Rows L2
/-! ### zip of two lists, walked by one name: the pair that was given out may be gone -/
/-- the zip's record: what it gave out last, whether that is known to be out -/
abbrev ZipF (h : Heap) (z TI TO : Addr) (u : Value) (f : Bool) : Prop :=
  h.get? z = some { cls := .type "zip", dict := none, data := .fields #[u, .bool f, .bool false, .ref TI, .ref TO], slots := #[] }
section
variable {prog : Program} {w : World} {A : Around} {E : Value → Shared → Prop} {s : Shared}
theorem gone_free {z TI TO T : Addr} {f : Bool} {Q : Bool → Shared → Prop} (hz : ZipF s.heap z TI TO (rawInt T) f) (hT : s.heap.get? T = none) (h : Q true s) : wpAny (model prog w) A (Builtin.SmallTypes.ownedTupleIsFree (.ref z)) Q E s := by
  unfold Builtin.SmallTypes.ownedTupleIsFree
  refine wpAny_bind (wpAny_field hz rfl (x := rawInt T) rfl ?_)
  show wpAny _ _ (loadIfAlive ((T : Int).toNat) >>= _) _ _ _
  rw [Int.toNat_natCast]
  have al : ∀ {R : Option Obj → Shared → Prop}, R none s → wpAny (model prog w) A (loadIfAlive T) R E s := fun {R} q => by
    have q' : R (s.heap.get? T) s := by rw [hT]; exact q
    exact fun _ _ _ => q'
  refine wpAny_bind (al ?_)
  exact wpAny_pure h
/-- the next pair where the zip's own tuple is free -/
theorem free_item {z TI TO i1 i2 l1 l2 : Addr} {u : Value} {f : Bool} {m n : Nat} {xs ys : Array Value} {x y p q : Value} {Q : Value → Shared → Prop} (D : ZipApart z TI TO i1 i2 l1 l2)
    (fr : ∀ {R : Bool → Shared → Prop}, R true s → wpAny (model prog w) A (Builtin.SmallTypes.ownedTupleIsFree (.ref z)) R E s)
    (hz : ZipF s.heap z TI TO u f) (hI : IsPair s.heap TI (.ref i1) (.ref i2)) (hO : IsPair s.heap TO p q)
    (g1 : s.heap.IsListIter i1 l1 m) (g2 : s.heap.IsListIter i2 l2 n) (L1 : s.heap.IsList l1 xs) (L2 : s.heap.IsList l2 ys) (ex : xs[m]? = some x) (ey : ys[n]? = some y)
    (fin : ∀ h', ZipF h' z TI TO (rawInt s.heap.objs.size) false → IsPair h' TO x y → h'.IsListIter i1 l1 (m + 1) → h'.IsListIter i2 l2 (n + 1) → IsPair h' s.heap.objs.size x y →
      (∀ c o, c ≠ z → c ≠ TO → c ≠ i1 → c ≠ i2 → s.heap.get? c = some o → h'.get? c = some o) → Q (.ref s.heap.objs.size) { s with heap := h' }) :
    wpAny (model prog w) A (Builtin.«zip.__next__» ⟨[.ref z], []⟩) (fun r t => ∃ v, r = .done (.ret v) ∧ Q v t) E s := by
  show wpAny _ _ (field (.ref z) 2 >>= _) _ _ _
  refine wpAny_bind (wpAny_field hz rfl (x := .bool false) rfl ?_)
  show wpAny _ _ (field (.ref z) 3 >>= _) _ _ _
  refine wpAny_bind (wpAny_field hz rfl (x := .ref TI) rfl (wpAny_bind (wpAny_seqItems hI rfl ?_)))
  show wpAny _ _ (Builtin.SmallTypes.ownedTupleIsFree (.ref z) >>= _) _ _ _
  refine wpAny_bind (fr ?_)
  simp only [if_true]
  refine wpAny_bind (wpAny_rule (wpAny_bind (wpAny_field hz rfl (x := .ref TO) rfl (wpAny_bind (wpAny_setField_rec hz (by simp) fun a1 az1 as1 => ?_)))))
  replace az1 : ZipF a1 z TI TO .ellipsis f := az1
  refine wpAny_bind ?_
  simp only [List.zipIdx_cons, List.zipIdx_nil, List.forIn_cons, List.forIn_nil]
  refine wpAny_bind (wpAny_bind (wpAny_onRaise ?_))
  show wpAny _ _ (Builtin.SmallTypes.nextOf (.ref i1) >>= _) _ _ _
  refine wpAny_bind (wpAny_nextOf_list_item (g1.extBut as1.extBut D.i1z) (L1.extBut as1.extBut D.l1z) ex fun a2 b1 as2 => wpAny_pure ?_)
  have o2 : IsPair a2 TO p q := as2.extBut _ _ D.TOi1 (as1.extBut _ _ D.TOz hO)
  refine wpAny_bind (wpAny_seqItems o2 rfl (wpAny_bind (wpAny_updateSeq_pair o2 fun a3 o3 as3 => ?_)))
  replace o3 : IsPair a3 TO x q := o3
  refine wpAny_bind (wpAny_letGo (wpAny_pure (wpAny_bind (wpAny_bind (wpAny_onRaise ?_)))))
  show wpAny _ _ (Builtin.SmallTypes.nextOf (.ref i2) >>= _) _ _ _
  have it2 := ((g2.extBut as1.extBut D.i2z).extBut as2.extBut D.i12.symm).extBut as3.extBut D.TOi2.symm
  have ls2 := ((L2.extBut as1.extBut D.l2z).extBut as2.extBut D.l2i1).extBut as3.extBut D.l2TO
  refine wpAny_bind (wpAny_nextOf_list_item it2 ls2 ey fun a4 b2 as4 => wpAny_pure ?_)
  have o4 : IsPair a4 TO x q := as4.extBut _ _ D.TOi2 o3
  refine wpAny_bind (wpAny_seqItems o4 rfl (wpAny_bind (wpAny_updateSeq_pair o4 fun a5 o5 as5 => ?_)))
  replace o5 : IsPair a5 TO x y := o5
  refine wpAny_bind (wpAny_letGo (wpAny_pure (wpAny_pure (wpAny_bind (wpAny_seqItems o5 rfl (wpAny_bind (wpAny_newTuple ?_)))))))
  have sz : a5.objs.size = s.heap.objs.size := by rw [as5.1, as4.1, as3.1, as2.1, as1.1]
  have az5 : ZipF a5 z TI TO .ellipsis f := as5.extBut _ _ D.TOz.symm (as4.extBut _ _ D.i2z.symm (as3.extBut _ _ D.TOz.symm (as2.extBut _ _ D.i1z.symm az1)))
  have kp : ∀ c o, c ≠ z → c ≠ TO → c ≠ i1 → c ≠ i2 → s.heap.get? c = some o → a5.get? c = some o := fun c o n1 n2 n3 n4 e =>
    as5.extBut _ _ n2 (as4.extBut _ _ n4 (as3.extBut _ _ n2 (as2.extBut _ _ n3 (as1.extBut _ _ n1 e))))
  have c1 : a5.IsListIter i1 l1 (m + 1) := ((b1.extBut as3.extBut D.TOi1.symm).extBut as4.extBut D.i12).extBut as5.extBut D.TOi1.symm
  have c2 : a5.IsListIter i2 l2 (n + 1) := b2.extBut as5.extBut D.TOi2.symm
  have zl : z < a5.objs.size := Heap.lt_size az5
  show wpAny _ _ (Builtin.SmallTypes.ownedTupleHandOut (.ref z) (.ref a5.objs.size) >>= _) _ _ _
  refine wpAny_bind ?_
  unfold Builtin.SmallTypes.ownedTupleHandOut
  have az6 : ZipF (a5.push { cls := .type "tuple", data := .seq #[x, y] }) z TI TO .ellipsis f := Heap.get?_push_of_some _ az5
  refine wpAny_bind (wpAny_setField_rec az6 (by simp) fun a7 az7 as7 => ?_)
  replace az7 : ZipF a7 z TI TO (rawInt a5.objs.size) f := az7
  refine wpAny_setField_rec az7 (by simp) fun a8 az8 as8 => ?_
  replace az8 : ZipF a8 z TI TO (rawInt a5.objs.size) false := az8
  have up : ∀ c o, c ≠ z → a5.get? c = some o → a8.get? c = some o := fun c o n1 e => as8.extBut _ _ n1 (as7.extBut _ _ n1 (Heap.get?_push_of_some _ e))
  have nw : IsPair a8 a5.objs.size x y := as8.extBut _ _ (Nat.ne_of_gt zl) (as7.extBut _ _ (Nat.ne_of_gt zl) (Heap.get?_push_size _ rfl))
  rw [sz] at az8 nw
  refine wpAny_pure ⟨_, rfl, ?_⟩
  show Q (.ref a5.objs.size) _
  rw [sz]
  exact fin a8 az8 (up _ _ D.TOz o5) (c1.at fun o e => up _ o D.i1z e) (c2.at fun o e => up _ o D.i2z e) nw fun c o n1 n2 n3 n4 e => up c o n1 (kp c o n1 n2 n3 n4 e)
/-- its end -/
theorem free_end {z TI TO i1 i2 l1 l2 : Addr} {u : Value} {f : Bool} {m n : Nat} {xs ys : Array Value} {p q : Value} {Q : Fin → Shared → Prop} (hh : A.handled = none) (D : ZipApart z TI TO i1 i2 l1 l2)
    (fr : ∀ {R : Bool → Shared → Prop}, R true s → wpAny (model prog w) A (Builtin.SmallTypes.ownedTupleIsFree (.ref z)) R E s)
    (hz : ZipF s.heap z TI TO u f) (hI : IsPair s.heap TI (.ref i1) (.ref i2)) (hO : IsPair s.heap TO p q)
    (g1 : s.heap.IsListIter i1 l1 m) (g2 : s.heap.IsListIter i2 l2 n) (L1 : s.heap.IsList l1 xs) (L2 : s.heap.IsList l2 ys) (hend : xs[m]? = none ∨ ys[n]? = none)
    (hE : ∀ h' e, (∀ c o, c ≠ z → c ≠ TO → c ≠ i1 → c ≠ i2 → s.heap.get? c = some o → h'.get? c = some o) → (∃ o, h'.get? e = some o ∧ o.cls = .type "StopIteration") → E (.ref e) { s with heap := h' }) :
    wpAny (model prog w) A (Builtin.«zip.__next__» ⟨[.ref z], []⟩) Q E s := by
  show wpAny _ _ (field (.ref z) 2 >>= _) _ _ _
  refine wpAny_bind (wpAny_field hz rfl (x := .bool false) rfl ?_)
  show wpAny _ _ (field (.ref z) 3 >>= _) _ _ _
  refine wpAny_bind (wpAny_field hz rfl (x := .ref TI) rfl (wpAny_bind (wpAny_seqItems hI rfl ?_)))
  show wpAny _ _ (Builtin.SmallTypes.ownedTupleIsFree (.ref z) >>= _) _ _ _
  refine wpAny_bind (fr ?_)
  simp only [if_true]
  refine wpAny_bind (wpAny_rule (wpAny_bind (wpAny_field hz rfl (x := .ref TO) rfl (wpAny_bind (wpAny_setField_rec hz (by simp) fun a1 az1 as1 => ?_)))))
  replace az1 : ZipF a1 z TI TO .ellipsis f := az1
  refine wpAny_bind ?_
  simp only [List.zipIdx_cons, List.zipIdx_nil, List.forIn_cons, List.forIn_nil]
  refine wpAny_bind (wpAny_bind (wpAny_onRaise ?_))
  show wpAny _ _ (Builtin.SmallTypes.nextOf (.ref i1) >>= _) _ _ _
  cases ex : xs[m]? with
  | none =>
    refine wpAny_bind (wpAny_nextOf_list_end hh (g1.extBut as1.extBut D.i1z) (L1.extBut as1.extBut D.l1z) ex fun a2 e as2 he => ?_)
    obtain ⟨oe, hoe, hce⟩ := he
    have az2 : ZipF a2 z TI TO .ellipsis f := as2 _ _ D.i1z.symm az1
    have ne : e ≠ z := fun x => by subst x; rw [az2] at hoe; cases hoe; simp at hce
    exact wpAny_setField_rec az2 (by simp) fun a3 _ as3 => hE a3 e (fun c o n1 _ n3 _ x => as3.extBut _ _ n1 (as2 _ _ n3 (as1.extBut _ _ n1 x))) ⟨oe, as3.extBut _ _ ne hoe, hce⟩
  | some x =>
    have ey : ys[n]? = none := by
      rcases hend with h | h
      · rw [ex] at h; cases h
      · exact h
    refine wpAny_bind (wpAny_nextOf_list_item (g1.extBut as1.extBut D.i1z) (L1.extBut as1.extBut D.l1z) ex fun a2 b1 as2 => wpAny_pure ?_)
    have o2 : IsPair a2 TO p q := as2.extBut _ _ D.TOi1 (as1.extBut _ _ D.TOz hO)
    refine wpAny_bind (wpAny_seqItems o2 rfl (wpAny_bind (wpAny_updateSeq_pair o2 fun a3 o3 as3 => ?_)))
    refine wpAny_bind (wpAny_letGo (wpAny_pure (wpAny_bind (wpAny_bind (wpAny_onRaise ?_)))))
    show wpAny _ _ (Builtin.SmallTypes.nextOf (.ref i2) >>= _) _ _ _
    have it2 := ((g2.extBut as1.extBut D.i2z).extBut as2.extBut D.i12.symm).extBut as3.extBut D.TOi2.symm
    have ls2 := ((L2.extBut as1.extBut D.l2z).extBut as2.extBut D.l2i1).extBut as3.extBut D.l2TO
    refine wpAny_bind (wpAny_nextOf_list_end hh it2 ls2 ey fun a4 e as4 he => ?_)
    obtain ⟨oe, hoe, hce⟩ := he
    have az4 : ZipF a4 z TI TO .ellipsis f := as4 _ _ D.i2z.symm (as3.extBut _ _ D.TOz.symm (as2.extBut _ _ D.i1z.symm az1))
    have ne : e ≠ z := fun x => by subst x; rw [az4] at hoe; cases hoe; simp at hce
    exact wpAny_setField_rec az4 (by simp) fun a5 _ as5 => hE a5 e (fun c o n1 n2 n3 n4 x => as5.extBut _ _ n1 (as4 _ _ n4 (as3.extBut _ _ n2 (as2.extBut _ _ n3 (as1.extBut _ _ n1 x))))) ⟨oe, as5.extBut _ _ ne hoe, hce⟩
/-- what stands between two turns: nothing given out, or a pair that may be gone -/
def ZipAt (h : Heap) (z TI TO : Addr) : Prop := IsZip h z TI TO .none ∨ ∃ (T : Addr) (f : Bool), ZipF h z TI TO (rawInt T) f
theorem one_item {z TI TO i1 i2 l1 l2 : Addr} {m n : Nat} {xs ys : Array Value} {x y p q : Value} {Q : Option Value → Shared → Prop} (D : ZipApart z TI TO i1 i2 l1 l2)
    (hz : ZipAt s.heap z TI TO) (hI : IsPair s.heap TI (.ref i1) (.ref i2)) (hO : IsPair s.heap TO p q)
    (g1 : s.heap.IsListIter i1 l1 m) (g2 : s.heap.IsListIter i2 l2 n) (L1 : s.heap.IsList l1 xs) (L2 : s.heap.IsList l2 ys) (ex : xs[m]? = some x) (ey : ys[n]? = some y)
    (fin : ∀ h', ZipAt h' z TI TO → (∃ p q, IsPair h' TO p q) → h'.IsListIter i1 l1 (m + 1) → h'.IsListIter i2 l2 (n + 1) → IsPair h' s.heap.objs.size x y →
      (∀ c o, c ≠ z → c ≠ TO → c ≠ i1 → c ≠ i2 → s.heap.get? c = some o → h'.get? c = some o) → Q (some (.ref s.heap.objs.size)) { s with heap := h' }) :
    wpAny (model prog w) A (pyNext (.ref z)) Q E s := by
  rcases hz with hz | ⟨T, f, hz⟩
  · exact wpAny_pyNext_zip_item D hz hI hO g1 g2 L1 L2 ex ey fun h' a b c d e _ k => fin h' (.inr ⟨_, _, a⟩) ⟨_, _, b⟩ c d e k
  · cases hT : s.heap.get? T with
    | some oT => exact wpAny_pyNext_zip_item_held D hz hT hI g1 g2 L1 L2 ex ey fun h' a c d e _ k => fin h' (.inr ⟨_, _, a⟩) ⟨_, _, k _ _ D.TOz D.TOi1 D.TOi2 hO⟩ c d e fun c o n1 _ n3 n4 q => k c o n1 n3 n4 q
    | none =>
      have ty : s.TypeIs (.ref z) "zip" := ⟨_, hz, rfl⟩
      unfold pyNext
      exact wpAny_bind (wpAny_attempt (wpAny_callSpecial?_slot (name := Str.ofString "__next__") ty F.slot_zip_next
        (wpAny_call_entry F.slot_zip_next ty F.entry_zip_next (free_item D (fun q => gone_free hz hT q) hz hI hO g1 g2 L1 L2 ex ey fun h' a b c d e k => wpAny_pure (fin h' (.inr ⟨_, _, a⟩) ⟨_, _, b⟩ c d e k)) (F.args_zip_next_1 _))))
theorem one_end {z TI TO i1 i2 l1 l2 : Addr} {m n : Nat} {xs ys : Array Value} {p q : Value} {Q : Option Value → Shared → Prop} (hh : A.handled = none) (D : ZipApart z TI TO i1 i2 l1 l2)
    (hz : ZipAt s.heap z TI TO) (hI : IsPair s.heap TI (.ref i1) (.ref i2)) (hO : IsPair s.heap TO p q)
    (g1 : s.heap.IsListIter i1 l1 m) (g2 : s.heap.IsListIter i2 l2 n) (L1 : s.heap.IsList l1 xs) (L2 : s.heap.IsList l2 ys) (hend : xs[m]? = none ∨ ys[n]? = none)
    (fin : ∀ h', (∀ c o, c ≠ z → c ≠ TO → c ≠ i1 → c ≠ i2 → s.heap.get? c = some o → h'.get? c = some o) → Q none { s with heap := h' }) : wpAny (model prog w) A (pyNext (.ref z)) Q E s := by
  rcases hz with hz | ⟨T, f, hz⟩
  · exact wpAny_pyNext_zip_end hh D hz hI hO g1 g2 L1 L2 hend fin
  · cases hT : s.heap.get? T with
    | some oT => exact wpAny_pyNext_zip_end_held hh D hz hT hI g1 g2 L1 L2 hend fun h' k => fin h' fun c o n1 _ n3 n4 q => k c o n1 n3 n4 q
    | none =>
      have ty : s.TypeIs (.ref z) "zip" := ⟨_, hz, rfl⟩
      unfold pyNext
      refine wpAny_bind (wpAny_attempt (wpAny_callSpecial?_slot (name := Str.ofString "__next__") ty F.slot_zip_next
        (wpAny_call_entry F.slot_zip_next ty F.entry_zip_next (free_end hh D (fun q => gone_free hz hT q) hz hI hO g1 g2 L1 L2 hend fun h' e k he => ?_) (F.args_zip_next_1 _))))
      obtain ⟨o, ho, hc⟩ := he
      exact wpAny_bind (wpAny_isInstance (T := "StopIteration") (b := true) ⟨o, ho, hc⟩ isSubtype_stop (wpAny_pure (fin _ k)))
theorem one_iter {z TI TO : Addr} {Q : Value → Shared → Prop} (hz : ZipAt s.heap z TI TO) (h : Q (.ref z) s) : wpAny (model prog w) A (pyIter (.ref z)) Q E s := by
  rcases hz with hz | ⟨T, f, hz⟩
  · exact wpAny_pyIter_zip hz h
  · have ty : s.TypeIs (.ref z) "zip" := ⟨_, hz, rfl⟩
    refine wpAny_pyIter_slot ty F.slot_zip_iter (wpAny_call_entry F.slot_zip_iter ty F.entry_zip_iter ?_ (F.args_zip_iter_1 _))
    show wpAny _ _ (ret (.ref z)) _ _ s
    exact wpAny_pure ⟨_, rfl, "zip", _, ty, F.slot_zip_next.lookup, h⟩
theorem ZipAt.has {h : Heap} {z TI TO : Addr} (a : ZipAt h z TI TO) : ∃ o, h.get? z = some o ∧ ∀ v, o.data ≠ .cell v := by
  rcases a with a | ⟨T, f, a⟩
  · exact ⟨_, a, fun v q => nomatch q⟩
  · exact ⟨_, a, fun v q => nomatch q⟩
theorem ZipAt.keep {h h' : Heap} {z TI TO : Addr} (a : ZipAt h z TI TO) (k : ∀ o, h.get? z = some o → h'.get? z = some o) : ZipAt h' z TI TO := by
  rcases a with a | ⟨T, f, a⟩
  · exact .inl (k _ a)
  · exact .inr ⟨T, f, k _ a⟩
end
/-- zip's turns for a target that is one name -/
theorem turn_one {P : Program} {w : World} {K : PySem.W.Frag} {nm : Str} {np : Pos} {a b z TI TO i1 i2 : Addr} (D : ZipApart z TI TO i1 i2 a b) :
    Turn P w K (.Name nm np) (Itz K a b) [z, TI, TO, i1, i2] z (fun i h => ZipAt h z TI TO ∧ IsPair h TI (.ref i1) (.ref i2) ∧ (∃ x y, IsPair h TO x y) ∧ h.IsListIter i1 a i ∧ h.IsListIter i2 b i) where
  mem := by simp
  obj := fun i h st c hc => by
    obtain ⟨hz, hI, ⟨x, y, hO⟩, ⟨o1, e1, _, d1⟩, ⟨o2, e2, _, d2⟩⟩ := st
    simp only [List.mem_cons, List.not_mem_nil, or_false] at hc
    rcases hc with rfl | rfl | rfl | rfl | rfl
    · exact hz.has
    · exact ⟨_, hI, fun v q => nomatch q⟩
    · exact ⟨_, hO, fun v q => nomatch q⟩
    · exact ⟨o1, e1, fun v q => by rw [d1] at q; cases q⟩
    · exact ⟨o2, e2, fun v q => by rw [d2] at q; cases q⟩
  keep := fun i h h' st k => by
    obtain ⟨hz, hI, ⟨x, y, hO⟩, g1, g2⟩ := st
    exact ⟨hz.keep fun o q => k z (by simp) o q, k TI (by simp) _ hI, ⟨x, y, k TO (by simp) _ hO⟩, g1.at fun o q => k i1 (by simp) o q, g2.at fun o q => k i2 (by simp) o q⟩
  item := by
    intro X hP hw hK hc i pins s σ H E I hf st hg
    subst hP hw hK
    obtain ⟨hz, hI, ⟨p0, q0, hO⟩, g1, g2⟩ := st
    obtain ⟨xs, ys, x, y, hqx, hqy, hx, hy⟩ := hg
    obtain ⟨its, rv, l1, _⟩ := I.list hqx
    obtain ⟨its2, rv2, l2, _⟩ := I.list hqy
    obtain ⟨u, hu, ru⟩ := rv.get hx
    obtain ⟨u2, hu2, ru2⟩ := rv2.get hy
    have zl : z < s.heap.objs.size := by obtain ⟨o, e, _⟩ := hz.has; exact Heap.lt_size e
    refine one_item D hz hI hO g1 g2 l1.isList l2.isList (x := u) (y := u2) (by simpa using hu) (by simpa using hu2) fun h' z' O' g1' g2' hT hk => ?_
    refine ⟨_, rfl, wpAny_pure ?_⟩
    have new : ObjOk X.prog X.w (upd H s.heap.objs.size (.tup [x, y])) h' s.heap.objs.size (.tup [x, y]) :=
      ⟨by show 2 ≤ sizeLine; decide, [u, u2], .cons ru (.cons ru2 .nil), ⟨_, hT, rfl, _, rfl⟩⟩
    have I1 : Inv X pins σ (upd H s.heap.objs.size (.tup [x, y])) { s with heap := h' } :=
      I.turnedNew (t' := s.toks) (ch := [z, TI, TO, i1, i2]) (fun c o hb q => hk c o (fun r => hb (by simp [r])) (fun r => hb (by simp [r])) (fun r => hb (by simp [r])) (fun r => hb (by simp [r])) q) hf (Nat.le_refl _) new
    refine ⟨.ref s.heap.objs.size, _, I1, rfl, ⟨_, x, y, rfl, I.hok.fresh (Nat.le_refl _), rfl, fun l hl => by rw [I.list_inj hl hqx]; exact hx, fun l hl => by rw [I.list_inj hl hqy]; exact hy⟩, ⟨z', hk _ _ D.TIz D.TITO D.TIi1 D.TIi2 hI, O', g1', g2'⟩, fun c hcm => ?_⟩
    have hlt : c < s.heap.objs.size := by
      simp only [List.mem_cons, List.not_mem_nil, or_false] at hcm
      rcases hcm with rfl | rfl | rfl | rfl | rfl
      · exact zl
      · exact Heap.lt_size hI
      · exact Heap.lt_size hO
      · obtain ⟨_, e1, _⟩ := g1; exact Heap.lt_size e1
      · obtain ⟨_, e2, _⟩ := g2; exact Heap.lt_size e2
    rw [upd_ne (Nat.ne_of_lt hlt)]
    exact (hf c hcm).1
  done := by
    intro X hP hw hK hc i pins s σ H E I hf st hg
    subst hP hw hK
    obtain ⟨hz, hI, ⟨p0, q0, hO⟩, g1, g2⟩ := st
    obtain ⟨xs, ys, hqx, hqy, hend⟩ := hg
    obtain ⟨its, rv, l1, _⟩ := I.list hqx
    obtain ⟨its2, rv2, l2, _⟩ := I.list hqy
    have n1 := rv.length
    have n2 := rv2.length
    have he : its.toArray[i]? = none ∨ its2.toArray[i]? = none := by
      rcases hend with q | q
      · exact .inl (by simp; omega)
      · exact .inr (by simp; omega)
    exact one_end (I.ok.hd hc) D hz hI hO g1 g2 l1.isList l2.isList he fun h' hk => ⟨rfl, I.turnedL (t' := s.toks) (ch := [z, TI, TO, i1, i2]) (fun c o hb q =>
      hk c o (fun r => hb (by simp [r])) (fun r => hb (by simp [r])) (fun r => hb (by simp [r])) (fun r => hb (by simp [r])) q) hf⟩
  self := fun A i s Q E st h => one_iter st.1 h
theorem pi_one_zip {X : Cx} {e e2 : Expr} {ta : TA} {p pos np : Pos} {nm : Str} (hg : Gl X "zip") (hm : X.mg "zip" = none) (ha : PA X [e, e2] ta)
    (hs : starEach [e, e2] X.env = (false, eval e X.env) :: starEach [e2] X.env := by rfl) (hpl : (backTo pos (starEach [e2] X.env)).any (·.1) = false := by rfl) :
    PI X (.Name nm np) (.Call (.Name "zip" p) [e, e2] [] pos) (iZip X.K ta) := by
  refine ⟨fun pins s σ H R I h => ?_⟩
  refine Call_ (ld_blt I hg hm PyProof.Rows.boot_zip (PyProof.Rows.callWith_type1 (thn (ha.run pos pins s σ H _ I h) fun us s1 ⟨vs, H1, I1, r1, q1⟩ => ?_) hs hpl))
  obtain ⟨a, b, xs, ys, ex, hqx, hqy, q⟩ := q1
  subst ex
  cases r1 with
  | cons r rr =>
    cases rr with
    | cons r' rr =>
      cases rr
      cases r
      cases r'
      obtain ⟨its, rv, l1, _⟩ := I1.list hqx
      obtain ⟨its2, rv2, l2, _⟩ := I1.list hqy
      refine call_zip_2 l1.isList l2.isList fun h' hz hI hO g1 g2 hsz hk => wpAny_pyIter_zip hz ?_
      have I2 : Inv X pins σ H1 { s1 with heap := h' } := I1.kept (t' := s1.toks) hk
      refine ⟨s1.heap.objs.size + 4, [s1.heap.objs.size + 4, s1.heap.objs.size + 2, s1.heap.objs.size + 3, s1.heap.objs.size, s1.heap.objs.size + 1], _, _, H1, rfl, I2, turn_one (PySem.W.ktu_apart s1.heap.objs.size a b l1.lt l2.lt), ⟨.inl hz, hI, ⟨_, _, hO⟩, g1, g2⟩, fun c hcm => ?_, q⟩
      have hle : s1.heap.objs.size ≤ c := by
        simp only [List.mem_cons, List.not_mem_nil, or_false] at hcm
        rcases hcm with h | h | h | h | h <;> rw [h] <;> first | exact Nat.le_add_right _ _ | exact Nat.le_refl _
      exact I1.fpOk hle (I1.hok.fresh hle)
end Cg

set_option maxHeartbeats 1000000
namespace Cg
open PySem PySem.Spec PyProof.Rows L2
/-! ### 14. iterators -/
section
variable {K : PySem.W.Frag} {H : Hp}
theorem itl_ok {a : Addr} {xs : List V} {ds : List PyData} (h : FzL K H a xs) (r : RpAll K H xs ds) : ItOk K (Itl K a) H ds := by
  intro i H' kf
  have hl := r.length
  have sq := (kf.fzL h).sq
  cases e : ds[i]? with
  | some d =>
    obtain ⟨v, hv, rv⟩ := r.get' e
    refine ⟨⟨xs, v, sq, hv⟩, fun x H'' y => ?_⟩
    obtain ⟨e1, y⟩ := y
    subst e1
    have := y xs sq
    rw [hv] at this
    cases this
    exact ⟨Same.refl _, rv.mono kf⟩
  | none => exact fun _ => ⟨xs, sq, by rw [hl]; exact List.getElem?_eq_none_iff.mp e⟩
theorem itt_ok {a : Addr} {xs : List V} {ds : List PyData} (h : SqT K H a xs) (r : RpAll K H xs ds) : ItOk K (Itt K a) H ds := by
  intro i H' kf
  have hl := r.length
  have sq := kf.sqT h
  cases e : ds[i]? with
  | some d =>
    obtain ⟨v, hv, rv⟩ := r.get' e
    refine ⟨⟨xs, v, sq, hv⟩, fun x H'' y => ?_⟩
    obtain ⟨e1, y⟩ := y
    subst e1
    have := y xs sq
    rw [hv] at this
    cases this
    exact ⟨Same.refl _, rv.mono kf⟩
  | none => exact fun _ => ⟨xs, sq, by rw [hl]; exact List.getElem?_eq_none_iff.mp e⟩
theorem itr_ok (a b : Int) : ItOk K (Itr a (b - a).toNat) H (rangeD a b) := by
  intro i H' kf
  unfold rangeD
  cases e : ((List.range (b - a).toNat).map fun (k : Nat) => PyData.int (a + k))[i]? with
  | some d =>
    rw [List.getElem?_map, Option.map_eq_some_iff] at e
    obtain ⟨k, e1, rfl⟩ := e
    obtain ⟨hk, e2⟩ := List.getElem?_eq_some_iff.mp e1
    rw [List.length_range] at hk
    rw [List.getElem_range] at e2
    subst e2
    refine ⟨hk, fun x H'' y => ?_⟩
    obtain ⟨e1, y⟩ := y
    subst e1 y
    exact ⟨Same.refl _, .int _⟩
  | none =>
    rw [List.getElem?_map, Option.map_eq_none_iff, List.getElem?_eq_none_iff, List.length_range] at e
    exact fun _ => e
theorem its_ok (z : Str) : ItOk K (Its z) H (z.cps.toList.map fun c => .str ⟨#[c]⟩) := by
  intro i H' kf
  cases e : (z.cps.toList.map fun c => PyData.str ⟨#[c]⟩)[i]? with
  | some d =>
    rw [List.getElem?_map, Option.map_eq_some_iff] at e
    obtain ⟨c, e1, rfl⟩ := e
    rw [Array.getElem?_toList] at e1
    refine ⟨?_, fun x H'' y => ?_⟩
    · show i < z.cps.size
      rw [Array.getElem?_eq_some_iff] at e1
      exact e1.1
    · obtain ⟨e2, c', e3, rfl⟩ := y
      subst e2
      rw [e1] at e3
      cases e3
      exact ⟨Same.refl _, .str _⟩
  | none =>
    rw [List.getElem?_map, Option.map_eq_none_iff, Array.getElem?_toList, Array.getElem?_eq_none_iff] at e
    exact fun _ => e
theorem rp_key (k : Key) : Rp K H (kV k) (kD k) := by
  cases k with
  | inl i => exact .int i
  | inr x => exact .str x
theorem rp_keys : ∀ ks : List Key, RpAll K H (ks.map kV) (ks.map kD)
  | [] => .nil
  | k :: ks => .cons (rp_key k) (rp_keys ks)
theorem zip_fst {α β : Type} : ∀ {xs : List α} {ys : List β}, xs.length = ys.length → (xs.zip ys).map (·.1) = xs
  | [], [], _ => rfl
  | x :: xs, y :: ys, h => by
    rw [List.zip_cons_cons, List.map_cons, zip_fst (by simpa using h)]
theorem itk_ok {a : Addr} {o : Obj} {kvs : List (Key × V)} (h : H a = some (.frz o (.dK kvs))) : ItOk K (Itk a o kvs) H (kvs.map fun p => kD p.1) := by
  intro i H' kf
  have h2 := kf _ _ h True.intro
  cases e : (kvs.map fun p => kD p.1)[i]? with
  | some d =>
    rw [List.getElem?_map, Option.map_eq_some_iff] at e
    obtain ⟨p, e1, rfl⟩ := e
    refine ⟨⟨h2, (List.getElem?_eq_some_iff.mp e1).1⟩, fun x H'' y => ?_⟩
    obtain ⟨e2, k, v, e3, rfl⟩ := y
    subst e2
    rw [e1] at e3
    cases e3
    exact ⟨Same.refl _, rp_key _⟩
  | none =>
    rw [List.getElem?_map, Option.map_eq_none_iff, List.getElem?_eq_none_iff] at e
    exact fun _ => ⟨h2, e⟩
theorem itkt_ok {a : Addr} {o : Obj} {kvs : List (List Key × V)} (h : H a = some (.frz o (.dT kvs))) : ItOk K (Itkt a o kvs) H (kvs.map fun p => .tuple (p.1.map kD)) := by
  intro i H' kf
  have h2 := kf _ _ h True.intro
  cases e : (kvs.map fun p => PyData.tuple (p.1.map kD))[i]? with
  | some d =>
    rw [List.getElem?_map, Option.map_eq_some_iff] at e
    obtain ⟨p, e1, rfl⟩ := e
    refine ⟨⟨h2, (List.getElem?_eq_some_iff.mp e1).1⟩, fun x H'' y => ?_⟩
    obtain ⟨e2, k, v, q, e3, rfl, hq⟩ := y
    subst e2
    rw [e1] at e3
    cases e3
    exact ⟨Same.refl _, .tup hq (rp_keys _)⟩
  | none =>
    rw [List.getElem?_map, Option.map_eq_none_iff, List.getElem?_eq_none_iff] at e
    exact fun _ => ⟨h2, e⟩
theorem ite_ok {a : Addr} {xs : List V} {ds : List PyData} (h : FzL K H a xs) (r : RpAll K H xs ds) : ItOk K (Ite K a) H (enumD ds) := by
  intro i H' kf
  have hl := r.length
  have sq := (kf.fzL h).sq
  unfold enumD
  cases e : (ds.zipIdx.map fun p => PyData.tuple [.int p.2, p.1])[i]? with
  | some d =>
    rw [List.getElem?_map, Option.map_eq_some_iff] at e
    obtain ⟨p, e1, rfl⟩ := e
    rw [List.getElem?_zipIdx, Option.map_eq_some_iff] at e1
    obtain ⟨d, e1, rfl⟩ := e1
    obtain ⟨v, hv, rv⟩ := r.get' e1
    refine ⟨⟨xs, v, sq, hv⟩, fun x H'' y => ?_⟩
    obtain ⟨T, w, rfl, hT, rfl, y⟩ := y
    have := y xs sq
    rw [hv] at this
    cases this
    have z : (0 + i : Nat) = i := by omega
    refine ⟨same_new hT, .tup upd_same ?_⟩
    rw [z]
    exact .cons (.int _) (.cons ((rv.mono kf).mono (.of (same_new hT))) .nil)
  | none =>
    rw [List.getElem?_map, Option.map_eq_none_iff, List.getElem?_zipIdx, Option.map_eq_none_iff] at e
    exact fun _ => ⟨xs, sq, by rw [hl]; exact List.getElem?_eq_none_iff.mp e⟩
theorem zipD_get {xs ys : List PyData} {i : Nat} {d : PyData} (e : (zipD xs ys)[i]? = some d) : ∃ x y, xs[i]? = some x ∧ ys[i]? = some y ∧ d = .tuple [x, y] := by
  unfold zipD at e
  rw [List.getElem?_map, Option.map_eq_some_iff] at e
  obtain ⟨p, e1, rfl⟩ := e
  rw [List.getElem?_zip_eq_some] at e1
  exact ⟨p.1, p.2, e1.1, e1.2, rfl⟩
theorem zipD_none {xs ys : List PyData} {i : Nat} (e : (zipD xs ys)[i]? = none) : xs.length ≤ i ∨ ys.length ≤ i := by
  unfold zipD at e
  rw [List.getElem?_map, Option.map_eq_none_iff, List.getElem?_eq_none_iff, List.length_zip] at e
  omega
theorem itz_ok {a b : Addr} {xs ys : List V} {ds es : List PyData} (h : FzL K H a xs) (r : RpAll K H xs ds) (h' : FzL K H b ys) (r' : RpAll K H ys es) : ItOk K (Itz K a b) H (zipD ds es) := by
  intro i H' kf
  have hl := r.length
  have hl' := r'.length
  have sq := (kf.fzL h).sq
  have sq' := (kf.fzL h').sq
  cases e : (zipD ds es)[i]? with
  | some d =>
    obtain ⟨x, y, e1, e2, rfl⟩ := zipD_get e
    obtain ⟨v, hv, rv⟩ := r.get' e1
    obtain ⟨w, hw, rw'⟩ := r'.get' e2
    refine ⟨⟨xs, ys, v, w, sq, sq', hv, hw⟩, fun x H'' z => ?_⟩
    obtain ⟨T, x1, x2, rfl, hT, rfl, z1, z2⟩ := z
    have q1 := z1 xs sq
    have q2 := z2 ys sq'
    rw [hv] at q1
    rw [hw] at q2
    cases q1
    cases q2
    exact ⟨same_new hT, .tup upd_same (.cons ((rv.mono kf).mono (.of (same_new hT))) (.cons ((rw'.mono kf).mono (.of (same_new hT))) .nil))⟩
  | none =>
    intro _
    have q := zipD_none e
    exact ⟨xs, ys, sq, sq', by rw [hl, hl']; exact q⟩
theorem itzT_ok {a b : Addr} {xs ys : List V} {ds es : List PyData} (h : SqT K H a xs) (r : RpAll K H xs ds) (h' : SqT K H b ys) (r' : RpAll K H ys es) : ItOk K (RZ.ItzT K a b) H (zipD ds es) := by
  intro i H' kf
  have hl := r.length
  have hl' := r'.length
  have sq := kf.sqT h
  have sq' := kf.sqT h'
  cases e : (zipD ds es)[i]? with
  | some d =>
    obtain ⟨x, y, e1, e2, rfl⟩ := zipD_get e
    obtain ⟨v, hv, rv⟩ := r.get' e1
    obtain ⟨w, hw, rw'⟩ := r'.get' e2
    refine ⟨⟨xs, ys, v, w, sq, sq', hv, hw⟩, fun x H'' z => ?_⟩
    obtain ⟨T, x1, x2, rfl, hT, rfl, z1, z2⟩ := z
    have q1 := z1 xs sq
    have q2 := z2 ys sq'
    rw [hv] at q1
    rw [hw] at q2
    cases q1
    cases q2
    exact ⟨same_new hT, .tup upd_same (.cons ((rv.mono kf).mono (.of (same_new hT))) (.cons ((rw'.mono kf).mono (.of (same_new hT))) .nil))⟩
  | none =>
    intro _
    have q := zipD_none e
    exact ⟨xs, ys, sq, sq', by rw [hl, hl']; exact q⟩
end
section
variable {T : Tx}
theorem s_val {c : C} (hc : Snd T c) : SndI T (.val c) := by
  intro sc fc X E H0 ok t x h
  unfold chkI at h
  have he := hc.1 H0 ok false x h
  refine ⟨fun pins s σ H R I ⟨e, st, p⟩ => ?_⟩
  rw [evI] at p
  cases ec : evE T.Γ c e with
  | no => rw [ec] at p; exact p.elim
  | exc k =>
    rw [ec] at p
    have p : ∀ H', Same H H' → E (exV X.K k) none H' := p
    exact (pi_list (tg := t) he).run pins s σ H R I ⟨e, st, by rw [ec]; exact p⟩
  | ok d =>
    rw [ec] at p
    have p : Post X.K E H (itemsOf d) (fun d H' => ∀ J, ItOk X.K J H' d → R J H') := p
    cases d with
    | list ds =>
      have p : ∀ H', Same H H' → ∀ J, ItOk X.K J H' ds → R J H' := p
      refine (pi_list (tg := t) he).run pins s σ H R I ⟨e, st, ?_⟩
      rw [ec]
      intro H1 s1 v r
      cases r with
      | lst hf ra => exact ⟨_, rfl, ⟨_, hf.sq⟩, p H1 s1 _ (itl_ok hf ra)⟩
    | tuple ds =>
      have p : ∀ H', Same H H' → ∀ J, ItOk X.K J H' ds → R J H' := p
      refine (pi_tup (tg := t) he).run pins s σ H R I ⟨e, st, ?_⟩
      rw [ec]
      intro H1 s1 v r
      cases r with
      | tup hf ra => exact ⟨_, rfl, ⟨_, SqT.of hf⟩, p H1 s1 _ (itt_ok (SqT.of hf) ra)⟩
    | str z =>
      have p : ∀ H', Same H H' → ∀ J, ItOk X.K J H' (z.cps.toList.map fun c => .str ⟨#[c]⟩) → R J H' := p
      refine (pi_str (tg := t) he).run pins s σ H R I ⟨e, st, ?_⟩
      rw [ec]
      intro H1 s1 v r
      cases r
      exact ⟨z, rfl, p H1 s1 _ (its_ok z)⟩
    | dict kvs =>
      have p : ∀ H', Same H H' → ∀ J, ItOk X.K J H' (kvs.map (·.1)) → R J H' := p
      refine (pi_keys (tg := t) he).run pins s σ H R I ⟨e, st, ?_⟩
      rw [ec]
      intro H1 s1 v r
      have r : Rp X.K H1 v (.dict kvs) := r
      cases r with
      | dK hf ra =>
        refine ⟨_, _, rfl, .inl ⟨_, hf, p H1 s1 _ ?_⟩⟩
        rw [zip_fst (by simpa using ra.length)]
        exact itk_ok hf
      | dT hf ra =>
        refine ⟨_, _, rfl, .inr ⟨_, hf, p H1 s1 _ ?_⟩⟩
        rw [zip_fst (by simpa using ra.length)]
        exact itkt_ok hf
    | none => exact p.elim
    | bool _ => exact p.elim
    | int _ => exact p.elim
theorem small62_ok {i : Int} (h : small62 i = true) : -(2 ^ 62) ≤ i ∧ i < 2 ^ 62 := by
  unfold small62 at h
  exact @of_decide_eq_true _ (Classical.propDecidable _) h
theorem pi_imp {X : Cx} {t x : Expr} {w w' : TI} (h : PI X t x w) (i : ∀ σ H R, w' σ H R → w σ H R) : PI X t x w' := ⟨fun pins s σ H R I z => h.run pins s σ H R I (i _ _ _ z)⟩
theorem s_rng1 {a : C} (ha : Snd T a) : SndI T (.rng1 a) := by
  intro sc fc X E H0 ok t x h
  unfold chkI at h
  split at h
  · simp only [Bool.and_eq_true, decide_eq_true_eq] at h
    obtain ⟨⟨⟨e1, e2⟩, e3⟩, e4⟩ := h
    subst e1
    obtain ⟨g1, g2, g3, g4⟩ := bl_ok ok e2
    refine pi_imp (pi_range1 g1 g2 (pa_cons (ha.1 H0 ok true _ e3) pa_nil (starEach_ns e4 _ _)) (starEach_ns e4 _ _)) fun σ H R ⟨e, st, p⟩ => ?_
    rw [evI] at p
    refine ⟨e, st, p.bind.imp fun d H1 s1 p1 v r1 => ?_⟩
    obtain ⟨j, ed, q⟩ := p1.bind.ok (asI_ne d)
    have e9 := asI_ok ed
    subst e9
    obtain ⟨xs, ex, q⟩ := (q H1 (Same.refl _)).ok (fun _ => ne_ite)
    split at ex
    · rename_i hz
      cases ex
      obtain ⟨z1, z2⟩ := small62_ok hz
      refine ⟨j, by rw [(relq_rb r1).int], z1, z2, q H1 (Same.refl _) _ ?_⟩
      have := itr_ok (K := X.K) (H := H1) 0 j
      rwa [Int.sub_zero] at this
    · cases ex
  · cases h
theorem s_rng2 {a b : C} (ha : Snd T a) (hb : Snd T b) : SndI T (.rng2 a b) := by
  intro sc fc X E H0 ok t x h
  unfold chkI at h
  split at h
  · simp only [Bool.and_eq_true, decide_eq_true_eq] at h
    obtain ⟨⟨⟨⟨⟨e1, e2⟩, e3⟩, e4⟩, e5⟩, e6⟩ := h
    subst e1
    obtain ⟨g1, g2, g3, g4⟩ := bl_ok ok e2
    have hs2 := starEach_ns e6 [] X.env
    refine pi_imp (pi_range2 g1 g2 (pa_cons (ha.1 H0 ok true _ e3) (pa_cons (hb.1 H0 ok true _ e5) pa_nil hs2) (starEach_ns e4 _ _)) (by rw [starEach_ns e4, hs2]; rfl) hs2) fun σ H R ⟨e, st, p⟩ => ?_
    rw [evI] at p
    refine ⟨e, st, p.bind.imp fun d H1 s1 p1 v r1 => ⟨e, st.mono s1, p1.bind.imp fun d2 H2 s2 p2 v2 r2 => ?_⟩⟩
    obtain ⟨i, ed, q⟩ := p2.bind.ok (asI_ne d)
    have e9 := asI_ok ed
    subst e9
    obtain ⟨j, ed2, q⟩ := (q H2 (Same.refl _)).bind.ok (asI_ne d2)
    have e9 := asI_ok ed2
    subst e9
    obtain ⟨xs, ex, q⟩ := Post.ok (r := if small62 i = true ∧ small62 j = true then Res.ok (rangeD i j) else Res.no) (q H2 (Same.refl _)) (fun _ => ne_ite)
    split at ex
    · rename_i hz
      cases ex
      obtain ⟨z1, z2⟩ := small62_ok hz.1
      obtain ⟨z3, z4⟩ := small62_ok hz.2
      exact ⟨i, j, by rw [(relq_rb r1).int, (relq_rb r2).int], ⟨z1, z2, z3, z4⟩, q H2 (Same.refl _) _ (itr_ok i j)⟩
    · cases ex
  · cases h
theorem isTup_ok {t : Expr} (h : isTupE t = true) : ∃ es k p, t = .Tuple es k p := by
  cases t <;> first
    | exact ⟨_, _, _, rfl⟩
    | (simp [isTupE] at h; done)
theorem s_zip {a b : C} (ha : Snd T a) (hb : Snd T b) : SndI T (.zip a b) := by
  intro sc fc X E H0 ok t x h
  unfold chkI at h
  split at h
  · simp only [Bool.and_eq_true, decide_eq_true_eq] at h
    obtain ⟨⟨⟨⟨⟨⟨e1, e2⟩, et⟩, e3⟩, e4⟩, e5⟩, e6⟩ := h
    subst e1
    obtain ⟨ts, tk, tp, rfl⟩ := isTup_ok et
    obtain ⟨g1, g2, g3, g4⟩ := bl_ok ok e2
    have hs2 := starEach_ns e6 [] X.env
    refine pi_imp (RZ.pi_zipA g1 g2 (pa_cons (ha.1 H0 ok false _ e3) (pa_cons (hb.1 H0 ok false _ e5) pa_nil hs2) (starEach_ns e4 _ _)) (starEach_ns e4 _ _) (by rw [hs2]; rfl)) fun σ H R ⟨e, st, p⟩ => ?_
    rw [evI] at p
    refine ⟨e, st, p.bind.imp fun d H1 s1 p1 v r1 => ⟨e, st.mono s1, p1.bind.imp fun d2 H2 s2 p2 v2 r2 => ?_⟩⟩
    have r1 := Rp.mono (.of s2) (show Rp X.K H1 v d from r1)
    have r2 : Rp X.K H2 v2 d2 := r2
    split at p2
    · cases r1 with
      | lst h1 ra => cases r2 with
        | lst h2 rb => exact ⟨_, _, _, _, rfl, .inl ⟨h1.sq, h2.sq, p2.now _ (itz_ok h1 ra h2 rb)⟩⟩
    · cases r1 with
      | tup h1 ra => cases r2 with
        | tup h2 rb => exact ⟨_, _, _, _, rfl, .inr ⟨SqT.of h1, SqT.of h2, p2.now _ (itzT_ok (SqT.of h1) ra (SqT.of h2) rb)⟩⟩
    · exact p2.elim
  · cases h
theorem isNm_ok {t : Expr} (h : isNameE t = true) : ∃ n p, t = .Name n p := by
  cases t <;> first
    | exact ⟨_, _, rfl⟩
    | (simp [isNameE] at h; done)
theorem s_zip1 {a b : C} (ha : Snd T a) (hb : Snd T b) : SndI T (.zip1 a b) := by
  intro sc fc X E H0 ok t x h
  unfold chkI at h
  split at h
  · simp only [Bool.and_eq_true, decide_eq_true_eq] at h
    obtain ⟨⟨⟨⟨⟨⟨e1, e2⟩, et⟩, e3⟩, e4⟩, e5⟩, e6⟩ := h
    subst e1
    obtain ⟨ts, tk, rfl⟩ := isNm_ok et
    obtain ⟨g1, g2, g3, g4⟩ := bl_ok ok e2
    have hs2 := starEach_ns e6 [] X.env
    refine pi_imp (pi_one_zip g1 g2 (pa_cons (ha.1 H0 ok false _ e3) (pa_cons (hb.1 H0 ok false _ e5) pa_nil hs2) (starEach_ns e4 _ _)) (starEach_ns e4 _ _) (by rw [hs2]; rfl)) fun σ H R ⟨e, st, p⟩ => ?_
    rw [evI] at p
    refine ⟨e, st, p.bind.imp fun d H1 s1 p1 v r1 => ⟨e, st.mono s1, p1.bind.imp fun d2 H2 s2 p2 v2 r2 => ?_⟩⟩
    have r1 := Rp.mono (.of s2) (show Rp X.K H1 v d from r1)
    have r2 : Rp X.K H2 v2 d2 := r2
    split at p2
    · cases r1 with
      | lst h1 ra => cases r2 with
        | lst h2 rb => exact ⟨_, _, _, _, rfl, h1.sq, h2.sq, p2.now _ (itz_ok h1 ra h2 rb)⟩
    · exact p2.elim
  · cases h
theorem s_enu {a : C} (ha : Snd T a) : SndI T (.enu a) := by
  intro sc fc X E H0 ok t x h
  unfold chkI at h
  split at h
  · simp only [Bool.and_eq_true, decide_eq_true_eq] at h
    obtain ⟨⟨⟨⟨e1, e2⟩, et⟩, e3⟩, e4⟩ := h
    subst e1
    obtain ⟨ts, tk, tp, rfl⟩ := isTup_ok et
    obtain ⟨g1, g2, g3, g4⟩ := bl_ok ok e2
    refine pi_imp (pi_enum g1 g2 (pa_cons (ha.1 H0 ok false _ e3) pa_nil (starEach_ns e4 _ _)) (starEach_ns e4 _ _)) fun σ H R ⟨e, st, p⟩ => ?_
    rw [evI] at p
    refine ⟨e, st, p.bind.imp fun d H1 s1 p1 v r1 => ?_⟩
    split at p1
    · have r1 : Rp X.K H1 v _ := r1
      cases r1 with
      | lst h1 ra => exact ⟨_, _, rfl, h1.sq, p1.now _ (ite_ok h1 ra)⟩
    · exact p1.elim
  · cases h
end
end Cg

set_option maxHeartbeats 1000000
namespace Cg
open PySem PySem.Spec PyProof.Rows L2
section
variable {T : Tx}
/-! list(range(..)), tuple(range(..)) -/
theorem rgV_ok {K : PySem.W.Frag} {H : Hp} (a b : Int) : RpAll K H (rgV a b) (rangeD a b) := by
  unfold rgV rangeD
  have h : ∀ l : List Nat, RpAll K H (l.map fun i => V.int (a + (i : Nat))) (l.map fun (k : Nat) => PyData.int (a + k)) := by
    intro l
    induction l with
    | nil => exact .nil
    | cons x l ih => exact .cons (.int _) ih
  exact h _
theorem rangeD_len (a b : Int) : (rangeD a b).length = (b - a).toNat := by
  unfold rangeD
  rw [List.length_map, List.length_range]
theorem prg_of {it : It'} (hi : isRng it = true) (ha : ∀ a, it = .rng1 a → Snd T a) (hb : ∀ a b, it = .rng2 a b → Snd T a ∧ Snd T b) {sc : Scope} {fc : Str → Bool} {X : Cx} {E : XK} (H0 : Hp) (ok : CxOk T sc fc X E) {t x : Expr} (h : chkI T it sc t x = true) :
    ∃ te, PRg X x te ∧ ∀ σ H (Q : Int → Int → Hp → Prop), (∃ e, StOk X.K H0 e σ H ∧ Post X.K E H (evI T.Γ it e) (fun xs H' => ∀ a b, xs = rangeD a b → small62 a = true → small62 b = true → Q a b H')) → te σ H Q := by
  cases it with
  | rng1 a =>
    unfold chkI at h
    split at h
    · simp only [Bool.and_eq_true, decide_eq_true_eq] at h
      obtain ⟨⟨⟨e1, e2⟩, e3⟩, e4⟩ := h
      subst e1
      obtain ⟨g1, g2, g3, g4⟩ := bl_ok ok e2
      refine ⟨_, prg_1 g1 g2 ((ha a rfl).1 H0 ok true _ e3) (starEach_ns e4 _ _), fun σ H Q ⟨e, st, p⟩ => ?_⟩
      rw [evI] at p
      refine ⟨e, st, p.bind.imp fun d H1 s1 p1 v r1 => ?_⟩
      obtain ⟨j, ed, q⟩ := p1.bind.ok (asI_ne d)
      have e9 := asI_ok ed
      subst e9
      obtain ⟨xs, ex, q⟩ := (q H1 (Same.refl _)).ok (fun _ => ne_ite)
      split at ex
      · rename_i hz
        cases ex
        exact ⟨j, by rw [(relq_rb r1).int], q H1 (Same.refl _) 0 j rfl (small62_few' (by decide) (by decide)) hz⟩
      · cases ex
    · cases h
  | rng2 a b =>
    unfold chkI at h
    split at h
    · simp only [Bool.and_eq_true, decide_eq_true_eq] at h
      obtain ⟨⟨⟨⟨⟨e1, e2⟩, e3⟩, e4⟩, e5⟩, e6⟩ := h
      subst e1
      obtain ⟨g1, g2, g3, g4⟩ := bl_ok ok e2
      have hs2 := starEach_ns e6 [] X.env
      refine ⟨_, prg_2 g1 g2 ((hb a b rfl).1.1 H0 ok true _ e3) ((hb a b rfl).2.1 H0 ok true _ e5) (starEach_ns e4 _ _) hs2 (by rw [hs2]; rfl), fun σ H Q ⟨e, st, p⟩ => ?_⟩
      rw [evI] at p
      refine ⟨e, st, p.bind.imp fun d H1 s1 p1 v r1 => ⟨e, st.mono s1, p1.bind.imp fun d2 H2 s2 p2 v2 r2 => ?_⟩⟩
      obtain ⟨i, ed, q⟩ := p2.bind.ok (asI_ne d)
      have e9 := asI_ok ed
      subst e9
      obtain ⟨j, ed2, q⟩ := (q H2 (Same.refl _)).bind.ok (asI_ne d2)
      have e9 := asI_ok ed2
      subst e9
      obtain ⟨xs, ex, q⟩ := Post.ok (r := if small62 i = true ∧ small62 j = true then Res.ok (rangeD i j) else Res.no) (q H2 (Same.refl _)) (fun _ => ne_ite)
      split at ex
      · rename_i hz
        cases ex
        exact ⟨i, j, by rw [(relq_rb r1).int], by rw [(relq_rb r2).int], q H2 (Same.refl _) i j rfl hz.1 hz.2⟩
      · cases ex
    · cases h
  | _ => cases hi
where
  small62_few' {i : Int} (h1 : -(2 ^ 62) ≤ i) (h2 : i < 2 ^ 62) : small62 i = true := by
    unfold small62
    exact @decide_eq_true _ (Classical.propDecidable _) ⟨h1, h2⟩
theorem s_rgL (t : Bool) (it : It') (ha : ∀ a, it = .rng1 a → Snd T a) (hb : ∀ a b, it = .rng2 a b → Snd T a ∧ Snd T b) : Snd T (.rgL t it) := by
  refine .plain (fun {sc fc X E} H0 ok b x h => ?_) (fun sc b x h => ?_)
  · unfold chk at h
    split at h
    · simp only [Bool.and_eq_true, decide_eq_true_eq] at h
      obtain ⟨⟨⟨⟨e1, e2⟩, e3⟩, e4⟩, e5⟩ := h
      subst e1
      obtain ⟨g1, g2, g3, g4⟩ := bl_ok ok e2
      obtain ⟨te, hp, key⟩ := prg_of e3 ha hb H0 ok e4
      have small : ∀ {i : Int}, small62 i = true → -(2 ^ 62) ≤ i ∧ i < 2 ^ 62 := fun h => small62_ok h
      cases t with
      | true =>
        refine toB (pe_imp (pe_tupRg ok.calm g1 g2 hp (starEach_ns e5 _ _)) fun σ H Q ⟨e, st, p⟩ => key σ H _ ⟨e, st, ?_⟩)
        rw [evE] at p
        refine p.bind.imp fun xs H1 s1 p1 a b ex sa sb => ?_
        obtain ⟨d, ed, q⟩ := p1.ok (fun _ => ne_ite)
        split at ed
        · rename_i hz
          cases ed
          subst ex
          rw [rangeD_len] at hz
          refine ⟨⟨(small sa).1, (small sa).2, (small sb).1, (small sb).2, by omega⟩, fun p hp => ?_⟩
          exact new_tup hp (rgV_ok a b) fun v H' s' r' => q H' s' v r'
        · cases ed
      | false =>
        refine toB (pe_imp (pe_lk (pe_listRg ok.calm g1 g2 hp (starEach_ns e5 _ _))) fun σ H Q ⟨e, st, p⟩ => key σ H _ ⟨e, st, ?_⟩)
        rw [evE] at p
        refine p.bind.imp fun xs H1 s1 p1 a b ex sa sb => ?_
        obtain ⟨d, ed, q⟩ := p1.ok (fun _ => ne_ite)
        split at ed
        · rename_i hz
          cases ed
          subst ex
          rw [rangeD_len] at hz
          refine ⟨⟨(small sa).1, (small sa).2, (small sb).1, (small sb).2, by omega⟩, fun p hp => ?_⟩
          exact new_list hp (rgV_ok a b) fun v H' s' r' => q H' s' v r'
        · cases ed
    · cases h
  · unfold chk at h
    split at h
    · rfl
    · cases h
theorem s_stk : Snd T .stk := by
  refine .plain (fun {sc fc X E} H0 ok b x h => ⟨fun pins s σ H Q I ⟨e, st, p⟩ => ?_⟩) (fun sc b x h => ?_)
  · rw [evE] at p
    exact p.elim
  · unfold chk at h
    exact h
/-! one of several defs -/
theorem pe_subCall {X : Cx} {E : XK} {tf : TE} {t : TA} {fs : List Expr} {xi e : Expr} {es : List Expr} {lp sp pos : Pos} (hl : PE X (.Subscript (.List fs lp) xi sp) tf) (hx : Passes (L2.CX X.prog X.w) X E) (ha : PA X (e :: es) t)
    (he : starEach (e :: es) X.env = (false, eval e X.env) :: starEach es X.env) (hpl : (backTo pos (starEach es X.env)).any (·.1) = false) :
    PE X (.Call (.Subscript (.List fs lp) xi sp) (e :: es) [] pos) (fun σ H Q => tf σ H fun v H1 => ∃ f, v = .ref f ∧ PySem.W.keepIn X.K (.ref f) = true ∧ ∃ k fd ps s, FnOk X.prog X.w X.K X.mg X.base (L2.CX X.prog X.w) k f fd ps s ∧ Room k X.A ∧ Binds X.K fd ps [] ∧ t σ H1 fun vs H2 => s (vs ++ []) H2 Q E) := by
  refine ⟨fun pins s σ H Q I h => ?_⟩
  have e1 : eval (.Call (.Subscript (.List fs lp) xi sp) (e :: es) [] pos) X.env = (do callWith pos (← eval (.Subscript (.List fs lp) xi sp) X.env) [] (backTo pos (starEach (e :: es) X.env)) (backToKw pos (keywordEach [] X.env))) := rfl
  rw [e1]
  refine wpAny_bind (thn (hl.run pins s σ H _ I h) fun u s1 ⟨v, H1, I1, r1, f, ev, hk, k, fd, ps, sp', F, hr, hb, q⟩ => ?_)
  subst ev
  cases r1
  refine PySem.W.callWith_K (h₀ := X.base) I1.ok.mod.kin hk (thn (ha.run pos pins s1 σ H1 _ I1 q) fun us s2 ⟨vs, H2, I2, r, q⟩ => ⟨I2.kIn, ?_⟩) he hpl
  exact run_fn F hr hb .nil hx I2 r q
theorem pa_names {sc : Scope} {fc : Str → Bool} {X : Cx} {E : XK} (ok : CxOk T sc fc X E) {n : Nat} : ∀ {ks : List Nat} {fs : List Expr}, calC T sc n ks fs = true → ∃ rs : List Addr, PA X fs (fun σ H Q => Q (rs.map V.ref) H) ∧ rs.length = ks.length ∧ ∀ (j k : Nat), ks[j]? = some k → ∃ f fd ps, rs[j]? = some f ∧ FnOk X.prog X.w X.K X.mg X.base (L2.CX X.prog X.w) (T.Γ k).lvl f fd ps (spF X.K (T.Γ k)) ∧ PySem.W.keepIn X.K (.ref f) = true ∧ Binds X.K fd ps [] ∧ (T.Γ k).lvl ≤ T.lv ∧ n = (T.Γ k).ar
  | [], [], _ => ⟨[], pa_nil, rfl, fun j k h => by simp at h⟩
  | k :: ks, .Name f fp :: fs, h => by
    unfold calC at h
    simp only [Bool.and_eq_true, decide_eq_true_eq] at h
    obtain ⟨⟨⟨⟨e1, e2⟩, e3⟩, e4⟩, e5⟩ := h
    subst e1
    obtain ⟨g1, g2, g3⟩ := gl_ok ok e2
    obtain ⟨fa, fd, ps, F, m, kp, bd⟩ := ok.tab.fn k e3
    obtain ⟨rs, h1, h2, h3⟩ := pa_names ok e5
    refine ⟨fa :: rs, pa_imp (pa_cons (pe_glob g1 m (v := .ref fa) rfl g3) h1 (starEach_ns rfl _ _)) fun σ H Q z => z, by simp [h2], fun j k' hj => ?_⟩
    cases j with
    | zero =>
      cases hj
      exact ⟨fa, fd, ps, rfl, F, kp, bd, e3, e4⟩
    | succ j =>
      obtain ⟨f', fd', ps', q⟩ := h3 j k' (by simpa using hj)
      exact ⟨f', fd', ps', by simpa using q⟩
  | [], _ :: _, h => by cases h
  | _ :: _, [], h => by cases h
  | _ :: _, .BoolOp _ _ _ :: _, h => by cases h
  | _ :: _, .NamedExpr _ _ _ :: _, h => by cases h
  | _ :: _, .BinOp _ _ _ _ :: _, h => by cases h
  | _ :: _, .UnaryOp _ _ _ :: _, h => by cases h
  | _ :: _, .Lambda _ _ _ _ :: _, h => by cases h
  | _ :: _, .IfExp _ _ _ _ :: _, h => by cases h
  | _ :: _, .Dict _ _ _ :: _, h => by cases h
  | _ :: _, .Set _ _ _ :: _, h => by cases h
  | _ :: _, .Compare _ _ _ _ :: _, h => by cases h
  | _ :: _, .Call _ _ _ _ :: _, h => by cases h
  | _ :: _, .Constant _ _ _ :: _, h => by cases h
  | _ :: _, .Attribute _ _ _ :: _, h => by cases h
  | _ :: _, .Subscript _ _ _ :: _, h => by cases h
  | _ :: _, .Starred _ _ :: _, h => by cases h
  | _ :: _, .List _ _ :: _, h => by cases h
  | _ :: _, .Tuple _ _ _ :: _, h => by cases h
theorem s_cal (ks : List Nat) {i : C} {es : Cs} (hi : Snd T i) (h1 : SndA T es) : Snd T (.cal ks i es) := by
  refine .plain (fun {sc fc X E} H0 ok b x h => ?_) (fun sc b x h => ?_)
  · unfold chk at h
    split at h
    · simp only [Bool.and_eq_true, decide_eq_true_eq] at h
      obtain ⟨⟨⟨⟨e0, e1⟩, e2⟩, e3⟩, e4⟩ := h
      obtain ⟨n1, n2⟩ := chks_cons e4
      obtain ⟨rs, pa, rl, rk⟩ := pa_names ok e1
      have pa2 := h1 H0 ok false _ e4
      refine toB (pe_imp (pe_subCall (pe_ix ix_list (pe_lst pa) (hi.1 H0 ok true _ e2) (plainIx_ok e3)) ok.pass.calls pa2 (starEach_ns n1 _ _) (backTo_ns n2)) fun σ H Q ⟨e, st, p⟩ => ?_)
      rw [evE] at p
      refine ⟨by rw [List.length_map, rl]; exact Nat.le_trans e0 (by decide), fun L hL => ⟨e, st.mono (same_new hL), ?_⟩⟩
      have p := (p.mono (same_new (o := .lst (rs.map V.ref)) hL)).bind
      refine p.imp fun d H1 s1 p1 v r1 => ?_
      obtain ⟨j, ed, q⟩ := p1.bind.ok (asI_ne d)
      have e9 := asI_ok ed
      subst e9
      have q := q H1 (Same.refl _)
      have hL1 : H1 L = some (.lst (rs.map V.ref)) := s1 _ _ upd_same
      have hj : ∃ k, atI ks j = some k := by
        cases hk : atI ks j with
        | none => rw [hk] at q; exact q.elim
        | some k => exact ⟨k, rfl⟩
      obtain ⟨k, hk⟩ := hj
      rw [hk] at q
      have q : Post X.K E H1 ((evs T.Γ es e).bind fun ds => (T.Γ k).run ds) (fun d H' => ∀ v, relq false X.K H' v d → Q v H') := q
      obtain ⟨m, hm, hkm⟩ := atI_get' hk
      obtain ⟨f, fd, ps, hf, F, kp, bd, lv, ar⟩ := rk m k hkm
      have hat : atI (rs.map V.ref) j = some (.ref f) := by
        unfold atI at hk ⊢
        rw [List.length_map, rl]
        rw [hm]
        show (rs.map V.ref)[m]? = _
        rw [List.getElem?_map, hf]
        rfl
      refine ⟨L, rs.map V.ref, j, .ref f, rfl, (relq_rb r1).int, SqL.of hL1, hat, f, rfl, kp, _, fd, ps, _, F, ok.room.mono lv, bd, e, (st.mono (same_new hL)).mono s1, ?_⟩
      refine q.bind.imp' fun ds H2 ee s2 p2 vs r2 => ?_
      show spF X.K (T.Γ k) (vs ++ []) H2 Q E
      rw [List.append_nil]
      refine ⟨?_, ds, r2, p2⟩
      rw [RpAll.length r2, evs_len ee, ar]
    · cases h
  · unfold chk at h
    split at h
    · rfl
    · cases h
where
  atI_get' {ks : List Nat} {j : Int} {k : Nat} (h : atI ks j = some k) : ∃ m, ixN ks.length j = some m ∧ ks[m]? = some k := by
    unfold atI at h
    obtain ⟨m, h1, h2⟩ := Option.bind_eq_some_iff.mp h
    exact ⟨m, h1, h2⟩
/-! methods -/
theorem few_ok1 {cpos : Pos} {e : Expr} {env : Env} (h : notStar e = true) : ((backTo cpos (starEach [e] env)).all (fun x => !x.1) && (backToKw cpos (keywordEach [] env)).all (fun x => x.1.isSome)
      && decide (([e] : List Expr).length + ([] : List Keyword).length + (if ([] : List Keyword).isEmpty then 0 else 1) < 30)) = true := by
  rw [starEach_ns h]
  rfl
theorem find_first {p : PyData → Bool} : ∀ {ds : List PyData} {j : Nat}, ds.findIdx? p = some j → ∃ z, ds[j]? = some z ∧ p z = true ∧ ∀ (m : Nat) (z' : PyData), m < j → ds[m]? = some z' → p z' = false
  | ds, j, h => by
    rw [List.findIdx?_eq_some_iff_getElem] at h
    obtain ⟨h1, h2, h3⟩ := h
    refine ⟨ds[j], List.getElem?_eq_getElem h1, h2, fun m z' hm hz => ?_⟩
    have h4 : m < ds.length := by omega
    rw [List.getElem?_eq_getElem h4] at hz
    cases hz
    have := h3 m hm
    simpa using this
theorem allS_map : ∀ {ds : List PyData} {ys : List Str}, allS ds = some ys → ds = ys.map .str
  | [], ys, h => by cases h; rfl
  | .str x :: ds, ys, h => by
    simp only [allS, Option.map_eq_some_iff] at h
    obtain ⟨zs, h1, rfl⟩ := h
    rw [allS_map h1]
    rfl
  | .int _ :: _, _, h => by simp [allS] at h
  | .bool _ :: _, _, h => by simp [allS] at h
  | .none :: _, _, h => by simp [allS] at h
  | .list _ :: _, _, h => by simp [allS] at h
  | .tuple _ :: _, _, h => by simp [allS] at h
  | .dict _ :: _, _, h => by simp [allS] at h
theorem rpAll_strs {K : PySem.W.Frag} {H : Hp} : ∀ {vs : List V} {ys : List Str}, RpAll K H vs (ys.map .str) → vs = ys.map V.str
  | _, [], h => by cases h; rfl
  | _, y :: ys, h => by
    cases h with
    | cons h r =>
      cases h
      rw [rpAll_strs r]
      rfl
theorem strs_rp {K : PySem.W.Frag} {H : Hp} : ∀ ys : List Str, RpAll K H (ys.map V.str) (ys.map .str)
  | [] => .nil
  | y :: ys => .cons (.str y) (strs_rp ys)
theorem plain_shaped {d : PyData} (h : PySem.SeqAt.shaped d = true) : d.plain = true := PyData.plain_of_canLay0 d (PySem.SeqAt.canLay_of_shaped h)
theorem base_ok {xo : Expr} (h : isBase xo = true) (m : Str) (env : Env) : attributeBase xo m env (eval xo env) = eval xo env := by
  cases xo <;> first
    | rfl
    | (simp [isBase] at h; done)
theorem s_mth (m : Str) {o a : C} (ho : Snd T o) (ha : Snd T a) : Snd T (.mth o m a) := by
  refine .plain (fun {sc fc X E} H0 ok b x h => ?_) (fun sc b x h => ?_)
  · unfold chk at h
    split at h
    · rename_i xo m' apos xa cpos
      simp only [Bool.and_eq_true, decide_eq_true_eq] at h
      obtain ⟨⟨⟨⟨⟨⟨e1, e2⟩, e2b⟩, e3⟩, e4⟩, e5⟩, e6⟩ := h
      subst e1
      have po := ho.1 H0 ok true _ e5
      have pa := ha.1 H0 ok false _ e6
      have hst := starEach_ns e4 [] X.env
      unfold mthN at e2
      rw [Bool.or_eq_true, Bool.or_eq_true, decide_eq_true_eq, decide_eq_true_eq, decide_eq_true_eq] at e2
      rcases e2 with (rfl | rfl) | rfl
      · refine toB (pe_imp (pe_bm PySem.F.plainAttrs_list PySem.F.slot_list_index PySem.F.type_list_index (mt_indexD (by have := ok.room.un; omega)) po (pa_cons pa pa_nil hst) (base_ok e2b _ _) (few_ok1 e4) e3 hst) fun σ H Q ⟨e, st, p⟩ => ?_)
        rw [evE] at p
        refine ⟨e, st, p.bind.imp fun dx H1 s1 p1 v r1 => ?_⟩
        obtain ⟨_, ek, p1⟩ := p1.bind.ok (mthK_ne _ dx)
        have p1 := p1 H1 (Same.refl _)
        cases dx with
        | list ds =>
          obtain ⟨a0, xs, rfl, h2, r2⟩ := (relq_rb r1).list
          refine ⟨.inl ⟨rfl, xs, h2⟩, e, st.mono s1, p1.bind.imp fun dy H2 s2 p2 u r3 => ?_⟩
          obtain ⟨d, ed, q⟩ := p2.ok (dMth_ne _ _ _)
          unfold dMth at ed
          simp only at ed
          rw [if_pos trivial] at ed
          split at ed
          · rename_i hs
            split at ed
            · rename_i j hj
              cases ed
              obtain ⟨z, z1, z2, z3⟩ := find_first hj
              have rl : Rb X.K H2 (.ref a0) (.list ds) := Rb.mono s2 (relq_rb r1)
              exact ⟨a0, u, dy, ds, j, z, rfl, rfl, rl.dp (plain_shaped hs.2), (show Rp X.K H2 u dy from r3).dp (plain_shaped hs.1), hs.2, hs.1, z1, z2, z3, q H2 (Same.refl _) _ (.int _)⟩
            · cases ed
          · cases ed
        | _ => first
          | (cases ek; done)
          | (simp [mthK] at ek; done)
      · refine toB (pe_imp (pe_lk (pe_split po pa hst (base_ok e2b _ _) e3)) fun σ H Q ⟨e, st, p⟩ => ?_)
        rw [evE] at p
        refine ⟨e, st, p.bind.imp fun dx H1 s1 p1 v r1 => ?_⟩
        obtain ⟨_, ek, p1⟩ := p1.bind.ok (mthK_ne _ dx)
        have p1 := p1 H1 (Same.refl _)
        cases dx with
        | str a0 =>
          have ev := (relq_rb r1).str
          subst ev
          refine ⟨⟨_, rfl⟩, e, st.mono s1, p1.bind.imp fun dy H2 s2 p2 u r3 => ?_⟩
          obtain ⟨d, ed, q⟩ := p2.ok (dMth_ne _ _ _)
          unfold dMth at ed
          split at ed
          · contradiction
          · rename_i hh1 hh2
            cases hh1
            cases hh2
            split at ed
            · rename_i hs
              cases ed
              cases (show Rp X.K H2 u (.str _) from r3)
              exact ⟨_, _, rfl, rfl, hs.2.1, hs.2.2, fun p hp => new_list hp (strs_rp _) fun v H' s' r' => q H' s' v r'⟩
            · cases ed
          · split at ed
            · split at ed
              · rename_i hs; exact absurd hs.1 (by decide)
              · cases ed
            · cases ed
          · cases ed
        | _ => first
          | (cases ek; done)
          | (simp [mthK] at ek; done)
      · refine toB (pe_imp (pe_join po pa hst (base_ok e2b _ _) e3) fun σ H Q ⟨e, st, p⟩ => ?_)
        rw [evE] at p
        refine ⟨e, st, p.bind.imp fun dx H1 s1 p1 v r1 => ?_⟩
        obtain ⟨_, ek, p1⟩ := p1.bind.ok (mthK_ne _ dx)
        have p1 := p1 H1 (Same.refl _)
        cases dx with
        | str a0 =>
          have ev := (relq_rb r1).str
          subst ev
          refine ⟨⟨_, rfl⟩, e, st.mono s1, p1.bind.imp fun dy H2 s2 p2 u r3 => ?_⟩
          obtain ⟨d, ed, q⟩ := p2.ok (dMth_ne _ _ _)
          unfold dMth at ed
          split at ed
          · contradiction
          · split at ed
            · rename_i hs; exact absurd hs.1 (by decide)
            · cases ed
          · rename_i hh1 hh2
            cases hh1
            cases hh2
            split at ed
            · rename_i ys hy
              split at ed
              · rename_i hs
                cases ed
                have ed2 := allS_map hy
                subst ed2
                cases (show Rp X.K H2 u (.list _) from r3) with
                | lst hf ra =>
                  have ex := rpAll_strs ra
                  subst ex
                  exact ⟨a0, _, ys, rfl, rfl, .inl hf.sq, hs.2, q H2 (Same.refl _) _ (.str _)⟩
              · cases ed
            · cases ed
          · cases ed
        | _ => first
          | (cases ek; done)
          | (simp [mthK] at ek; done)
    · cases h
  · unfold chk at h
    split at h
    · rfl
    · cases h
end
end Cg

set_option maxHeartbeats 1000000
namespace Cg
open PySem PySem.Spec PyProof.Rows L2
/-! ### 15. targets -/
def gsOf : List Nat → TGs
  | [] => gNil
  | i :: is => gCons (gName i) (gsOf is)
def gOf (K : PySem.W.Frag) : Tg → TG
  | .one i => gName i
  | .tup is => gTup K is.length (gsOf is)
section
variable {T : Tx} {sc : Scope} {fc : Str → Bool} {X : Cx} {E : XK}
theorem st_ok (ok : CxOk T sc fc X E) {i : Nat} {x : Str} (h : stC T sc fc i x = true) : X.N[i]? = some x ∧ Loc X.env.scope x ∧ (X.fn x = true ∨ X.env.scope.names.lookup x = some .local) := by
  unfold stC at h
  simp only [Bool.and_eq_true, decide_eq_true_eq] at h
  obtain ⟨h1, h2⟩ := h
  refine ⟨by rw [ok.hN]; exact h1, ?_⟩
  rw [ok.hsc]
  split at h2
  · rename_i e
    exact ⟨.inl e, .inr e⟩
  · rename_i e
    exact ⟨.inr e, .inl (ok.hfn _ h2)⟩
  · cases h2
theorem pgs_names (ok : CxOk T sc fc X E) : ∀ {is : List Nat} {ts : List Expr}, stCs T sc fc is ts = true → PGs X ts (gsOf is) ∧ (assignEach ts X.env).length = is.length ∧ (assignEach ts X.env).findIdx? (·.1) = none
  | [], [], _ => ⟨pgs_nil, rfl, rfl⟩
  | i :: is, t :: ts, h => by
    cases t with
    | Name x pos =>
      unfold stCs at h
      rw [Bool.and_eq_true] at h
      obtain ⟨h1, h2, h3⟩ := st_ok ok h.1
      obtain ⟨k1, k2, k3⟩ := pgs_names ok h.2
      refine ⟨pgs_cons (pg_name (by rw [ok.hN]; exact ok.nd) h1 h2 h3) k1, ?_, ?_⟩
      · show ((false, assign (.Name x pos) X.env) :: assignEach ts X.env).length = _
        rw [List.length_cons, k2]
        rfl
      · show ((false, assign (.Name x pos) X.env) :: assignEach ts X.env).findIdx? (·.1) = none
        rw [List.findIdx?_cons, k3]
        rfl
    | _ => unfold stCs at h; cases h
  | [], _ :: _, h => by unfold stCs at h; cases h
  | _ :: _, [], h => by unfold stCs at h; cases h
theorem pg_ok (ok : CxOk T sc fc X E) {tg : Tg} {t : Expr} (h : tgC T sc fc tg t = true) : PG X t (gOf X.K tg) := by
  unfold tgC at h
  split at h
  · obtain ⟨h1, h2, h3⟩ := st_ok ok h
    exact pg_name (by rw [ok.hN]; exact ok.nd) h1 h2 h3
  · obtain ⟨k1, k2, k3⟩ := pgs_names ok h
    exact pg_tup ok.calm k1 k2 k3
  · cases h
end
theorem wipe_set_gen {σ : L2.St} {i : Nat} {a : Option V} : ∀ vs : List Nat, wipe (σ.set i a) vs = if i ∈ vs then wipe σ vs else (wipe σ vs).set i a
  | [] => by rw [if_neg (by simp)]; rfl
  | v :: vs => by
    have ih := wipe_set_gen (σ := σ) (i := i) (a := a) vs
    show (wipe (σ.set i a) vs).set v none = _
    rw [ih]
    by_cases h : i ∈ vs
    · rw [if_pos h, if_pos (List.mem_cons_of_mem _ h)]
      rfl
    · rw [if_neg h]
      by_cases e : i = v
      · subst e
        rw [if_pos List.mem_cons_self, List.set_set]
        rfl
      · rw [if_neg (by simp [h, e])]
        exact List.set_comm _ _ e
theorem wipe_set {σ : L2.St} {i : Nat} {a : Option V} {vs : List Nat} (h : i ∈ vs) : wipe (σ.set i a) vs = wipe σ vs := by rw [wipe_set_gen, if_pos h]
section
variable {K : PySem.W.Frag} {H0 : Hp}
theorem gs_okG : ∀ {is : List Nat} {ds : List PyData} {xs : List V} {e e' : Ev} {σ : L2.St} {H G : Hp} {R : L2.St → Hp → Prop}, StOk K H0 e σ G → RpAll K H xs ds → KeepF H G → bindMany is ds e = .ok e' →
    (∀ σ2, StOk K H0 e' σ2 G → (∀ vs, (∀ i ∈ is, i ∈ vs) → wipe σ2 vs = wipe σ vs) → R σ2 H) → gsOf is xs σ H R
  | [], [], _, e, e', σ, H, G, R, st, .nil, kf, h, q => by
    cases h
    exact ⟨rfl, q σ st fun _ _ => rfl⟩
  | i :: is, d :: ds, _, e, e', σ, H, G, R, st, .cons (v := v) (vs := vr) h1 h2, kf, h, q => by
    refine ⟨v, vr, rfl, ?_⟩
    show gsOf is vr (σ.set i (some v)) H R
    refine gs_okG (st.setV i (h1.mono kf)) h2 kf h fun σ2 st2 w => q σ2 st2 fun vs hv => ?_
    rw [w vs fun j hj => hv j (List.mem_cons_of_mem _ hj), wipe_set (hv i List.mem_cons_self)]
  | [], _ :: _, _, _, _, _, _, _, _, _, _, _, h, _ => by cases h
  | _ :: _, [], _, _, _, _, _, _, _, _, _, _, h, _ => by cases h
theorem bindMany_len : ∀ {is : List Nat} {ds : List PyData} {e e' : Ev}, bindMany is ds e = .ok e' → ds.length = is.length
  | [], [], _, _, _ => rfl
  | i :: is, d :: ds, e, e', h => by rw [List.length_cons, List.length_cons, bindMany_len (is := is) (ds := ds) h]
  | [], _ :: _, _, _, h => by cases h
  | _ :: _, [], _, _, h => by cases h
theorem g_okG {tg : Tg} {d : PyData} {x : V} {e e' : Ev} {σ : L2.St} {H G : Hp} {R : L2.St → Hp → Prop} (st : StOk K H0 e σ G) (r : Rp K H x d) (kf : KeepF H G) (h : bindT tg d e = .ok e')
    (q : ∀ σ2, StOk K H0 e' σ2 G → (∀ vs, (∀ i ∈ tgIx tg, i ∈ vs) → wipe σ2 vs = wipe σ vs) → R σ2 H) : gOf K tg x σ H R := by
  cases tg with
  | one i =>
    have h : Res.ok (setV e i d) = .ok e' := by cases d <;> exact h
    cases h
    exact q _ (st.setV i (r.mono kf)) fun vs hv => wipe_set (hv i (by simp [tgIx]))
  | tup is =>
    cases d with
    | tuple ds =>
      cases r with
      | tup hs ra =>
        have hl := bindMany_len (is := is) (ds := ds) h
        exact ⟨_, _, rfl, SqT.of hs, by rw [ra.length, hl], gs_okG st ra kf h q⟩
    | _ => cases h
theorem g_ok {tg : Tg} {d : PyData} {x : V} {e e' : Ev} {σ : L2.St} {H : Hp} {R : L2.St → Hp → Prop} (st : StOk K H0 e σ H) (r : Rp K H x d) (h : bindT tg d e = .ok e')
    (q : ∀ σ2, StOk K H0 e' σ2 H → (∀ vs, (∀ i ∈ tgIx tg, i ∈ vs) → wipe σ2 vs = wipe σ vs) → R σ2 H) : gOf K tg x σ H R := g_okG st r (KeepF.refl H) h q
end
/-! ### 16. list comprehensions -/
theorem quiet_eq {α : Type} {r : Res α} {a : α} (h : r.quiet = .ok a) : r = .ok a := by
  cases r with
  | ok b => exact h
  | exc k => cases h
  | no => cases h
theorem bind_eq {α β : Type} {r : Res α} {f : α → Res β} {b : β} (h : r.bind f = .ok b) : ∃ a, r = .ok a ∧ f a = .ok b := by
  cases r with
  | ok a => exact ⟨a, rfl, h⟩
  | exc k => cases h
  | no => cases h
theorem mapR_fil (f : PyData → Res PyData) : ∀ xs, mapR f xs = filR (fun _ => .ok true) f xs
  | [] => rfl
  | x :: xs => by
    unfold mapR filR
    rw [mapR_fil f xs]
    rfl
section
variable {K : PySem.W.Frag}
/-- where the new list at D stands, behind i items -/
def LcInv (K : PySem.W.Frag) (H1 : Hp) (D : Addr) (ys : List PyData) (rest : Res (List PyData)) (H : Hp) : Prop :=
  Same H1 H ∧ ∃ acc dn rs, H D = some (.lst acc) ∧ RpAll K H acc dn ∧ rest = .ok rs ∧ dn ++ rs = ys
theorem LcInv.grown {H1 H H' : Hp} {D : Addr} {ys : List PyData} {rest : Res (List PyData)} (h : LcInv K H1 D ys rest H) (s : Same H H') : LcInv K H1 D ys rest H' := by
  obtain ⟨s1, acc, dn, rs, h1, h2, h3, h4⟩ := h
  exact ⟨s1.trans s, acc, dn, rs, s _ _ h1, h2.mono (.of s), h3, h4⟩
theorem LcInv.push {H1 H : Hp} {D : Addr} {ys : List PyData} {d : PyData} {v : V} {rest rest' : Res (List PyData)} (hD : H1 D = none) (hz : ys.length ≤ sizeLine) (h : LcInv K H1 D ys rest H) (hr : ∃ rs, rest' = .ok rs ∧ rest = .ok (d :: rs)) (r : Rp K H v d) :
    ∃ acc, H D = some (.lst acc) ∧ acc.length < sizeLine ∧ LcInv K H1 D ys rest' (upd H D (.lst (acc ++ [v]))) := by
  obtain ⟨s1, acc, dn, rs, h1, h2, h3, h4⟩ := h
  obtain ⟨rs', e1, e2⟩ := hr
  rw [e2] at h3
  cases h3
  have hl := h2.length
  have e5 := congrArg List.length h4
  rw [List.length_append, List.length_cons] at e5
  have kf : KeepF H (upd H D (.lst (acc ++ [v]))) := fun b u q f => by
    rw [upd_ne]
    · exact q
    · rintro rfl
      rw [h1] at q
      cases q
      exact f
  refine ⟨acc, h1, by omega, fun b u q => ?_, acc ++ [v], dn ++ [d], rs', upd_same, (h2.mono kf).append (.cons (r.mono kf) .nil), e1, by rw [List.append_assoc]; exact h4⟩
  rw [upd_ne (fun z => by rw [z, hD] at q; cases q)]
  exact s1 b u q
theorem LcInv.doneU {H1 H : Hp} {D : Addr} {ys : List PyData} {Q : VK} (hD : H1 D = none) (h : LcInv K H1 D ys (.ok []) H) (q : ∀ D H' acc, Same H1 H' → H1 D = none → H' D = some (.lst acc) → RpAll K H' acc ys → Q (.ref D) H') : Q (.ref D) H := by
  obtain ⟨s1, acc, dn, rs, h1, h2, h3, h4⟩ := h
  cases h3
  rw [List.append_nil] at h4
  subst h4
  exact q D H acc s1 hD h1 h2
/-- a new list that may still change, locked -/
theorem lock_new {H1 H : Hp} {D : Addr} {acc : List V} {ys : List PyData} {Q : VK} (s1 : Same H1 H) (hD : H1 D = none) (h1 : H D = some (.lst acc)) (h2 : RpAll K H acc ys) (q : ∀ v H', Same H1 H' → Rp K H' v (.list ys) → Q v H') : LK Q (.ref D) H := by
  refine .inr ⟨D, _, h1, True.intro, fun od => ?_⟩
  have kf : KeepF H (upd H D (.frz od (.lst acc))) := fun b u q f => by
    rw [upd_ne]
    · exact q
    · rintro rfl
      rw [h1] at q
      cases q
      exact f
  refine q _ _ (fun b u q => ?_) (.lst (.inl ⟨od, upd_same⟩) (h2.mono kf))
  rw [upd_ne (fun z => by rw [z, hD] at q; cases q)]
  exact s1 b u q
theorem LcInv.done {H1 H : Hp} {D : Addr} {ys : List PyData} {Q : VK} (hD : H1 D = none) (h : LcInv K H1 D ys (.ok []) H) (q : ∀ v H', Same H1 H' → Rp K H' v (.list ys) → Q v H') : LK Q (.ref D) H := by
  obtain ⟨s1, acc, dn, rs, h1, h2, h3, h4⟩ := h
  cases h3
  rw [List.append_nil] at h4
  subst h4
  refine .inr ⟨D, _, h1, True.intro, fun od => ?_⟩
  have kf : KeepF H (upd H D (.frz od (.lst acc))) := fun b u q f => by
    rw [upd_ne]
    · exact q
    · rintro rfl
      rw [h1] at q
      cases q
      exact f
  refine q _ _ (fun b u q => ?_) (.lst (.inl ⟨od, upd_same⟩) (h2.mono kf))
  rw [upd_ne (fun z => by rw [z, hD] at q; cases q)]
  exact s1 b u q
theorem LcInv.start {H1 : Hp} {D : Addr} {ys : List PyData} {rest : Res (List PyData)} (hD : H1 D = none) (h : rest = .ok ys) : LcInv K H1 D ys rest (upd H1 D (.lst [])) :=
  ⟨same_new hD, [], [], ys, upd_same, .nil, h, rfl⟩
end
theorem drop_at {xs : List PyData} {i : Nat} {d : PyData} (h : xs[i]? = some d) : xs.drop i = d :: xs.drop (i + 1) := by
  obtain ⟨hi, e⟩ := List.getElem?_eq_some_iff.mp h
  rw [List.drop_eq_getElem_cons hi, e]
section
variable {K : PySem.W.Frag} {H0 : Hp}
/-- where the new list at D stands, behind i items of the source; tot: what comes of it all -/
def LcX (K : PySem.W.Frag) (H1 : Hp) (D : Addr) (tot : Res (List PyData)) (i : Nat) (rest : Res (List PyData)) (H : Hp) : Prop :=
  Same H1 H ∧ ∃ acc dn, H D = some (.lst acc) ∧ RpAll K H acc dn ∧ dn.length ≤ i ∧ (rest.bind fun rs => .ok (dn ++ rs)) = tot
theorem LcX.grown {H1 H H' : Hp} {D : Addr} {tot rest : Res (List PyData)} {i : Nat} (h : LcX K H1 D tot i rest H) (s : Same H H') : LcX K H1 D tot i rest H' := by
  obtain ⟨s1, acc, dn, h1, h2, h3, h4⟩ := h
  exact ⟨s1.trans s, acc, dn, s _ _ h1, h2.mono (.of s), h3, h4⟩
theorem LcX.skip {H1 H : Hp} {D : Addr} {tot rest rest' : Res (List PyData)} {i : Nat} (h : LcX K H1 D tot i rest H) (e : rest = rest') : LcX K H1 D tot (i + 1) rest' H := by
  obtain ⟨s1, acc, dn, h1, h2, h3, h4⟩ := h
  exact ⟨s1, acc, dn, h1, h2, Nat.le_succ_of_le h3, e ▸ h4⟩
theorem LcX.push {H1 H : Hp} {D : Addr} {tot : Res (List PyData)} {d : PyData} {v : V} {rest rest' : Res (List PyData)} {i n : Nat} (hD : H1 D = none) (hi : i < n) (hz : ∀ ys, tot = .ok ys → ys.length ≤ sizeLine) (hx : ∀ k, tot = .exc k → n ≤ sizeLine) (hn : tot ≠ .no)
    (h : LcX K H1 D tot i rest H) (hr : rest = rest'.bind fun rs => .ok (d :: rs)) (r : Rp K H v d) :
    ∃ acc, H D = some (.lst acc) ∧ acc.length < sizeLine ∧ LcX K H1 D tot (i + 1) rest' (upd H D (.lst (acc ++ [v]))) := by
  obtain ⟨s1, acc, dn, h1, h2, h3, h4⟩ := h
  have hl := h2.length
  have kf : KeepF H (upd H D (.lst (acc ++ [v]))) := fun b u q f => by
    rw [upd_ne]
    · exact q
    · rintro rfl
      rw [h1] at q
      cases q
      exact f
  have e5 : (rest'.bind fun rs => .ok ((dn ++ [d]) ++ rs)) = tot := by
    rw [← h4, hr]
    cases rest' with
    | ok rs => simp
    | exc k => rfl
    | no => rfl
  refine ⟨acc, h1, ?_, fun b u q => ?_, acc ++ [v], dn ++ [d], upd_same, (h2.mono kf).append (.cons (r.mono kf) .nil), by simp; omega, e5⟩
  · cases rest' with
    | ok rs =>
      have z := hz _ e5.symm
      simp only [List.length_append, List.length_cons, List.length_nil] at z
      omega
    | exc k =>
      have z := hx k e5.symm
      omega
    | no => exact absurd e5.symm hn
  · rw [upd_ne (fun z => by rw [z, hD] at q; cases q)]
    exact s1 b u q
theorem LcX.exc {H1 H : Hp} {D : Addr} {tot : Res (List PyData)} {i : Nat} {k : Str} (h : LcX K H1 D tot i (.exc k) H) : tot = .exc k := by
  obtain ⟨_, _, _, _, _, _, h4⟩ := h
  exact h4.symm
theorem LcX.no {H1 H : Hp} {D : Addr} {tot : Res (List PyData)} {i : Nat} (h : LcX K H1 D tot i .no H) : tot = .no := by
  obtain ⟨_, _, _, _, _, _, h4⟩ := h
  exact h4.symm
/-- one clause, with a test -/
theorem lc_run {E : XK} {e : Ev} {σ : L2.St} {H1 : Hp} {J : It} {xs : List PyData} {tot : Res (List PyData)} {ws : List Nat} {tg : Tg} {tt : TT} {te : TE} {Q : VK} {c : PyData → Res Bool} {f : PyData → Res PyData} (st : StOk K H0 e σ H1) (it : ItOk K J H1 xs) (hw : ∀ i ∈ tgIx tg, i ∈ ws)
    (hr : filR c f xs = tot) (hz : ∀ ys, tot = .ok ys → ys.length ≤ sizeLine) (hx : ∀ k, tot = .exc k → xs.length ≤ sizeLine ∧ ∀ H', Same H1 H' → E (exV K k) none H') (hn : tot ≠ .no)
    (hc : ∀ d, c d ≠ .no → ∃ e', bindT tg d (wipeV e ws) = .ok e' ∧ ∀ σ2 H' (R : Bool → Hp → Prop), StOk K H0 e' σ2 H' → Post K E H' (c d) R → tt σ2 H' R)
    (hf : ∀ d e', bindT tg d (wipeV e ws) = .ok e' → ∀ σ2 H' (R : VK), StOk K H0 e' σ2 H' → Post K E H' (f d) (fun y H'' => ∀ v, Rp K H'' v y → R v H'') → te σ2 H' R)
    (q : ∀ ys D H' acc, tot = .ok ys → Same H1 H' → H1 D = none → H' D = some (.lst acc) → RpAll K H' acc ys → Q (.ref D) H') :
    ∀ D, H1 D = none → ∃ W : Nat → Nat → Hp → Prop, (∃ m, W 0 m (upd H1 D (.lst []))) ∧ ∀ i m H, W i m H →
      (J.stop i H ∧ Q (.ref D) H) ∨ (J.go i H ∧ ∃ Nx : Hp → Prop, (∀ H', Nx H' → ∃ m', m' < m ∧ W (i + 1) m' H') ∧ ∀ x H', J.yld i H x H' → gOf K tg x (wipe σ ws) H' fun σ2 H2 => wipe σ2 ws = wipe σ ws ∧ tt σ2 H2 fun b H3 =>
        if b = true then te σ2 H3 fun y H4 => ∃ acc, H4 D = some (.lst acc) ∧ acc.length < sizeLine ∧ Nx (upd H4 D (.lst (acc ++ [y]))) else Nx H3) := by
  intro D hD
  refine ⟨fun i m H => m = xs.length - i ∧ i ≤ xs.length ∧ LcX K H1 D tot i (filR c f (xs.drop i)) H, ⟨xs.length, by simp, Nat.zero_le _, same_new hD, [], [], upd_same, .nil, Nat.le_refl _, ?_⟩, ?_⟩
  · rw [List.drop_zero, hr]
    cases tot <;> rfl
  rintro i m H ⟨rfl, hi, p⟩
  have same : Same H1 H := p.1
  have hit := it i H (.of same)
  by_cases hlt : i < xs.length
  · have e1 : xs[i]? = some xs[i] := List.getElem?_eq_getElem hlt
    rw [e1] at hit
    obtain ⟨go, yl⟩ := hit
    refine .inr ⟨go, LcX K H1 D tot (i + 1) (filR c f (xs.drop (i + 1))), fun H' p' => ⟨xs.length - (i + 1), by omega, rfl, hlt, p'⟩, fun x H' y => ?_⟩
    obtain ⟨s2, rx⟩ := yl x H' y
    have p2 := p.grown s2
    rw [drop_at e1] at p2
    unfold filR at p2
    have cn : c xs[i] ≠ .no := fun z => by rw [z] at p2; exact hn p2.no
    obtain ⟨e', he', ht⟩ := hc _ cn
    have st2 : StOk K H0 (wipeV e ws) (wipe σ ws) H' := ((st.mono same).mono s2).wipe ws
    refine g_ok st2 rx he' fun σ2 st3 w => ⟨?_, ht σ2 H' _ st3 ?_⟩
    · rw [w ws hw]
      exact wipe_wipe σ ws
    · cases hb : c xs[i] with
      | no => exact absurd hb cn
      | exc k =>
        rw [hb] at p2
        exact fun H'' s => (hx k p2.exc).2 H'' ((same.trans s2).trans s)
      | ok b =>
        intro H3 s3
        rw [hb] at p2
        have p3 := p2.grown s3
        cases b with
        | false => exact p3.skip rfl
        | true =>
          have p3 : LcX K H1 D tot i ((f xs[i]).bind fun y => (filR c f (xs.drop (i + 1))).bind fun ys => .ok (y :: ys)) H3 := p3
          show te σ2 H3 _
          refine hf _ _ he' σ2 H3 _ (st3.mono s3) ?_
          cases hy : f xs[i] with
          | no =>
            rw [hy] at p3
            exact hn p3.no
          | exc k =>
            rw [hy] at p3
            exact fun H'' s => (hx k p3.exc).2 H'' (((same.trans s2).trans s3).trans s)
          | ok z =>
            intro H4 s4 v r
            rw [hy] at p3
            exact (p3.grown s4).push hD hlt hz (fun k hk => (hx k hk).1) hn rfl r
  · have e1 : i = xs.length := by omega
    subst e1
    rw [List.getElem?_eq_none (Nat.le_refl _)] at hit
    rw [List.drop_length] at p
    obtain ⟨s1, acc, dn, h1, h2, _, h4⟩ := p
    refine .inl ⟨hit rfl, q dn D H acc ?_ s1 hD h1 h2⟩
    rw [← h4]
    show Res.ok (dn ++ []) = _
    rw [List.append_nil]
where
  wipe_wipe (σ : L2.St) : ∀ ws : List Nat, wipe (wipe σ ws) ws = wipe σ ws := fun ws => by
    have gen : ∀ us vs : List Nat, (∀ v ∈ vs, v ∈ us) → wipe (wipe σ vs) us = wipe σ us := by
      intro us vs
      induction vs with
      | nil => intro _; rfl
      | cons v vs ih =>
        intro h
        show wipe ((wipe σ vs).set v none) us = _
        rw [wipe_set (h v List.mem_cons_self)]
        exact ih fun u hu => h u (List.mem_cons_of_mem _ hu)
    exact gen ws ws fun _ h => h
end
end Cg

set_option maxHeartbeats 1000000
namespace Cg
open PySem PySem.Spec PyProof.Rows L2
theorem fold_ns {x : Expr} (h : notSet x = true) (env : Env) (v : Value) : foldedSetIterable x env v = pure v := by
  cases x <;> first
    | rfl
    | (simp [notSet] at h; done)
theorem mapR_fil' {α : Type} (B : PyData → Res α) (g : α → Res PyData) : ∀ xs, mapR (fun x => (B x).bind g) xs = filR (fun x => (B x).bind fun _ => .ok true) (fun x => (B x).bind g) xs
  | [] => rfl
  | x :: xs => by
    unfold mapR filR
    rw [mapR_fil' B g xs]
    cases B x with
    | ok a => rfl
    | exc k => rfl
    | no => rfl
theorem sub1_ok {ws is : List Nat} (h : sub1 ws is = true) : ∀ i ∈ is, i ∈ ws := by
  unfold sub1 at h
  simp only [List.all_eq_true, List.contains_iff_mem] at h
  exact h
theorem listD_ok {ys : List PyData} {d : PyData} (h : listD ys = .ok d) : d = .list ys ∧ ys.length ≤ sizeLine := by
  unfold listD at h
  split at h
  · cases h; exact ⟨rfl, by assumption⟩
  · cases h
section
variable {T : Tx}
theorem bindT_nx (tg : Tg) (d : PyData) (e : Ev) (k : Str) : bindT tg d e ≠ .exc k := by
  have many : ∀ (is : List Nat) (ds : List PyData) (e : Ev), bindMany is ds e ≠ .exc k := by
    intro is
    induction is with
    | nil => intro ds e h; cases ds <;> cases h
    | cons i is ih =>
      intro ds e h
      cases ds with
      | nil => cases h
      | cons d ds => exact ih ds _ h
  intro h
  cases tg with
  | one i => cases d <;> cases h
  | tup is =>
    cases d with
    | tuple ds => exact many _ _ _ h
    | _ => cases h
/-- what comes of a comprehension, told by the wish -/
theorem lc_tot {K : PySem.W.Frag} {E : XK} {H1 : Hp} {n : Nat} {tot : Res (List PyData)} {R : PyData → Hp → Prop} (p : Post K E H1 ((lcR n tot).bind listD) R) : (∀ ys, tot = .ok ys → ys.length ≤ sizeLine) ∧ (∀ k, tot = .exc k → n ≤ sizeLine ∧ ∀ H', Same H1 H' → E (exV K k) none H') ∧ tot ≠ .no ∧
    ∀ ys, tot = .ok ys → ∀ H', Same H1 H' → R (.list ys) H' := by
  cases tot with
  | ok ys =>
    have p : Post K E H1 (listD ys) R := p
    obtain ⟨d, e2, p2⟩ := p.ok (listD_ne ys)
    obtain ⟨rfl, hz⟩ := listD_ok e2
    exact ⟨fun _ e => (by cases e; exact hz), fun _ e => (nomatch e), fun e => (nomatch e), fun _ e => (by cases e; exact p2)⟩
  | exc k =>
    unfold lcR at p
    dsimp only at p
    by_cases h : n ≤ sizeLine
    · rw [if_pos h] at p
      exact ⟨fun _ e => (nomatch e), fun _ e => (by cases e; exact ⟨h, p⟩), fun e => (nomatch e), fun _ e => (nomatch e)⟩
    · rw [if_neg h] at p
      exact p.elim
  | no => exact p.elim
/-- what a clause's block is read by -/
theorem s_lc_key {elt : C} {tg : Tg} {it : It'} {ws : List (Str × Nat)} {K : PySem.W.Frag} {E : XK} {H0 : Hp} (hw : sub1 (ws.map (·.2)) (tgIx tg) = true) {σ : L2.St} {H : Hp} {Q : VK} (h : rd T.Γ K E H0 false (.lc elt tg it ws) σ H Q) :
    tLc (rdI T.Γ K E H0 it) (gOf K tg) tYes (rd T.Γ K E H0 false elt) (ws.map (·.2)) σ H (LK Q) := by
  obtain ⟨e, st, p⟩ := h
  rw [evE] at p
  refine ⟨e, st, p.bind.imp fun xs H1 s1 p1 J itok => ?_⟩
  rw [mapR_fil'] at p1
  obtain ⟨hz, hx, hn, p2⟩ := lc_tot p1
  refine lc_run (E := E) (st.mono s1) itok (sub1_ok hw) rfl hz hx hn (fun d hd => ?_) (fun d e' he σ2 H' R st2 q => ?_) fun ys D H' acc et s h1 h2 r => ?_
  · cases hb : bindT tg d (wipeV e (ws.map (·.2))) with
    | ok e' => exact ⟨e', rfl, fun σ2 H' R st2 q => q H' (Same.refl _)⟩
    | exc k => exact absurd hb (bindT_nx _ _ _ k)
    | no => rw [hb] at hd; exact absurd rfl hd
  · rw [he] at q
    exact ⟨e', st2, q⟩
  · exact lock_new s h1 h2 r fun v H' s r => p2 ys et H' s v r
theorem s_lcf_key {elt : C} {tg : Tg} {it : It'} {c : C} {ws : List (Str × Nat)} {K : PySem.W.Frag} {E : XK} {H0 : Hp} (hw : sub1 (ws.map (·.2)) (tgIx tg) = true) {σ : L2.St} {H : Hp} {Q : VK} (h : rd T.Γ K E H0 false (.lcf elt tg it c ws) σ H Q) :
    tLc (rdI T.Γ K E H0 it) (gOf K tg) (rdT T.Γ K E H0 c) (rd T.Γ K E H0 false elt) (ws.map (·.2)) σ H (LK Q) := by
  obtain ⟨e, st, p⟩ := h
  rw [evE] at p
  refine ⟨e, st, p.bind.imp fun xs H1 s1 p1 J itok => ?_⟩
  obtain ⟨hz, hx, hn, p2⟩ := lc_tot p1
  refine lc_run (E := E) (st.mono s1) itok (sub1_ok hw) rfl hz hx hn (fun d hd => ?_) (fun d e' he σ2 H' R st2 q => ?_) fun ys D H' acc et s h1 h2 r => ?_
  · cases hb : bindT tg d (wipeV e (ws.map (·.2))) with
    | ok e' => exact ⟨e', rfl, fun σ2 H' R st2 q => ⟨e', st2, q⟩⟩
    | exc k => exact absurd hb (bindT_nx _ _ _ k)
    | no => rw [hb] at hd; exact absurd rfl hd
  · rw [he] at q
    exact ⟨e', st2, q⟩
  · exact lock_new s h1 h2 r fun v H' s r => p2 ys et H' s v r
/-- a new list, not locked yet -/
def rdU (Γ : Tb) (K : PySem.W.Frag) (E : XK) (H0 : Hp) (c : C) : TE := fun σ H Q => ∃ e, StOk K H0 e σ H ∧ Post K E H (evE Γ c e) (fun d H1 => ∃ ys, d = .list ys ∧ ∀ D H' acc, Same H1 H' → H1 D = none → H' D = some (.lst acc) → RpAll K H' acc ys → Q (.ref D) H')
theorem u_lc_key {elt : C} {tg : Tg} {it : It'} {ws : List (Str × Nat)} {K : PySem.W.Frag} {E : XK} {H0 : Hp} (hw : sub1 (ws.map (·.2)) (tgIx tg) = true) {σ : L2.St} {H : Hp} {Q : VK} (h : rdU T.Γ K E H0 (.lc elt tg it ws) σ H Q) :
    tLc (rdI T.Γ K E H0 it) (gOf K tg) tYes (rd T.Γ K E H0 false elt) (ws.map (·.2)) σ H Q := by
  obtain ⟨e, st, p⟩ := h
  rw [evE] at p
  refine ⟨e, st, p.bind.imp fun xs H1 s1 p1 J itok => ?_⟩
  rw [mapR_fil'] at p1
  obtain ⟨hz, hx, hn, p2⟩ := lc_tot p1
  refine lc_run (E := E) (st.mono s1) itok (sub1_ok hw) rfl hz hx hn (fun d hd => ?_) (fun d e' he σ2 H' R st2 q => ?_) fun ys D H' acc et s h1 h2 r => ?_
  · cases hb : bindT tg d (wipeV e (ws.map (·.2))) with
    | ok e' => exact ⟨e', rfl, fun σ2 H' R st2 q => q H' (Same.refl _)⟩
    | exc k => exact absurd hb (bindT_nx _ _ _ k)
    | no => rw [hb] at hd; exact absurd rfl hd
  · rw [he] at q
    exact ⟨e', st2, q⟩
  · obtain ⟨ys', ey, q⟩ := p2 ys et H1 (Same.refl _)
    cases ey
    exact q D H' acc s h1 h2 r
theorem u_lcf_key {elt : C} {tg : Tg} {it : It'} {c : C} {ws : List (Str × Nat)} {K : PySem.W.Frag} {E : XK} {H0 : Hp} (hw : sub1 (ws.map (·.2)) (tgIx tg) = true) {σ : L2.St} {H : Hp} {Q : VK} (h : rdU T.Γ K E H0 (.lcf elt tg it c ws) σ H Q) :
    tLc (rdI T.Γ K E H0 it) (gOf K tg) (rdT T.Γ K E H0 c) (rd T.Γ K E H0 false elt) (ws.map (·.2)) σ H Q := by
  obtain ⟨e, st, p⟩ := h
  rw [evE] at p
  refine ⟨e, st, p.bind.imp fun xs H1 s1 p1 J itok => ?_⟩
  obtain ⟨hz, hx, hn, p2⟩ := lc_tot p1
  refine lc_run (E := E) (st.mono s1) itok (sub1_ok hw) rfl hz hx hn (fun d hd => ?_) (fun d e' he σ2 H' R st2 q => ?_) fun ys D H' acc et s h1 h2 r => ?_
  · cases hb : bindT tg d (wipeV e (ws.map (·.2))) with
    | ok e' => exact ⟨e', rfl, fun σ2 H' R st2 q => ⟨e', st2, q⟩⟩
    | exc k => exact absurd hb (bindT_nx _ _ _ k)
    | no => rw [hb] at hd; exact absurd rfl hd
  · rw [he] at q
    exact ⟨e', st2, q⟩
  · obtain ⟨ys', ey, q⟩ := p2 ys et H1 (Same.refl _)
    cases ey
    exact q D H' acc s h1 h2 r
theorem blkOk_at {sc : Scope} {fc : Str → Bool} {X : Cx} {E : XK} {scope : Scope} {ws : List (Str × Nat)} (ok : CxOk T sc fc X E) (h : blkC T.N sc scope ws = true) : BlkOk X.N X.env.scope scope ws := by
  rw [ok.hN, ok.hsc]
  exact blkOk_by h
theorem cx_nd {sc : Scope} {fc : Str → Bool} {X : Cx} {E : XK} (ok : CxOk T sc fc X E) : X.N.Nodup := by
  rw [ok.hN]
  exact ok.nd
theorem s_lc {elt : C} {tg : Tg} {it : It'} (ws : List (Str × Nat)) (he : Snd T elt) (hi : SndI T it) : Snd T (.lc elt tg it ws) := by
  refine .plain (fun {sc fc X E} H0 ok b x h => ?_) (fun sc b x h => ?_)
  · unfold chk at h
    split at h
    · simp only [Bool.and_eq_true] at h
      obtain ⟨⟨⟨⟨⟨h1, h2⟩, h3⟩, h4⟩, h5⟩, h6⟩ := h
      exact toB (pe_imp (pe_lk (pe_lcx ok.pass ok.calm (cx_nd ok) (hi H0 ok _ _ h1) (blkOk_at ok h2) (fun s H C cl fp xe ps => ⟨pg_ok (ok.blkx s H _ C cl fp xe ps) h3, pts_nil, he.1 H0 (ok.blkx s H _ C cl fp xe ps) false _ h5⟩) (fold_ns h6 _))) fun σ H Q z => s_lc_key h4 z)
    · cases h
  · unfold chk at h
    split at h
    · rfl
    · cases h
theorem u_lc {elt : C} {tg : Tg} {it : It'} {ws : List (Str × Nat)} (he : Snd T elt) (hi : SndI T it) {sc : Scope} {fc : Str → Bool} {X : Cx} {E : XK} (H0 : Hp) (ok : CxOk T sc fc X E) {x : Expr} (h : chk T (.lc elt tg it ws) sc false x = true) : PE X x (rdU T.Γ X.K E H0 (.lc elt tg it ws)) := by
  unfold chk at h
  split at h
  · simp only [Bool.and_eq_true] at h
    obtain ⟨⟨⟨⟨⟨h1, h2⟩, h3⟩, h4⟩, h5⟩, h6⟩ := h
    exact pe_imp (pe_lcx ok.pass ok.calm (cx_nd ok) (hi H0 ok _ _ h1) (blkOk_at ok h2) (fun s H C cl fp xe ps => ⟨pg_ok (ok.blkx s H _ C cl fp xe ps) h3, pts_nil, he.1 H0 (ok.blkx s H _ C cl fp xe ps) false _ h5⟩) (fold_ns h6 _)) fun σ H Q z => u_lc_key h4 z
  · cases h
theorem u_lcf {elt : C} {tg : Tg} {it : It'} {c : C} {ws : List (Str × Nat)} (he : Snd T elt) (hi : SndI T it) (hc : Snd T c) {sc : Scope} {fc : Str → Bool} {X : Cx} {E : XK} (H0 : Hp) (ok : CxOk T sc fc X E) {x : Expr} (h : chk T (.lcf elt tg it c ws) sc false x = true) : PE X x (rdU T.Γ X.K E H0 (.lcf elt tg it c ws)) := by
  unfold chk at h
  split at h
  · simp only [Bool.and_eq_true] at h
    obtain ⟨⟨⟨⟨⟨⟨⟨h1, h2⟩, h3⟩, h4⟩, h5⟩, h6⟩, h7⟩, h8⟩ := h
    exact pe_imp (pe_lcx ok.pass ok.calm (cx_nd ok) (hi H0 ok _ _ h1) (blkOk_at ok h2) (fun s H C cl fp xe ps => ⟨pg_ok (ok.blkx s H _ C cl fp xe ps) h3, pts_one (hc.2 H0 (ok.blkx s H _ C cl fp xe ps) true _ h7 h8).1, he.1 H0 (ok.blkx s H _ C cl fp xe ps) false _ h5⟩) (fold_ns h6 _)) fun σ H Q z => u_lcf_key h4 z
  · cases h
theorem u_lst {es : Cs} (h1 : SndA T es) {sc : Scope} {fc : Str → Bool} {X : Cx} {E : XK} (H0 : Hp) (ok : CxOk T sc fc X E) {x : Expr} (h : chk T (.lst es) sc false x = true) : PE X x (rdU T.Γ X.K E H0 (.lst es)) := by
  unfold chk at h
  split at h
  · refine pe_imp (pe_lst (h1 H0 ok false _ h)) fun σ H Q ⟨e, st, p⟩ => ?_
    rw [evE] at p
    refine ⟨e, st, p.bind.imp fun ds H1 s1 p1 vs r1 => ?_⟩
    obtain ⟨d, e1, q⟩ := p1.ok (listD_ne ds)
    obtain ⟨rfl, hz⟩ := listD_ok e1
    obtain ⟨ys, ey, q⟩ := q H1 (Same.refl _)
    cases ey
    refine ⟨by rw [RpAll.length r1]; exact hz, fun p hp => q p _ vs (same_new hp) hp upd_same (RpAll.mono (.of (same_new hp)) r1)⟩
  · cases h
theorem s_lcf {elt : C} {tg : Tg} {it : It'} {c : C} (ws : List (Str × Nat)) (he : Snd T elt) (hi : SndI T it) (hc : Snd T c) : Snd T (.lcf elt tg it c ws) := by
  refine .plain (fun {sc fc X E} H0 ok b x h => ?_) (fun sc b x h => ?_)
  · unfold chk at h
    split at h
    · simp only [Bool.and_eq_true] at h
      obtain ⟨⟨⟨⟨⟨⟨⟨h1, h2⟩, h3⟩, h4⟩, h5⟩, h6⟩, h7⟩, h8⟩ := h
      exact toB (pe_imp (pe_lk (pe_lcx ok.pass ok.calm (cx_nd ok) (hi H0 ok _ _ h1) (blkOk_at ok h2) (fun s H C cl fp xe ps => ⟨pg_ok (ok.blkx s H _ C cl fp xe ps) h3, pts_one (hc.2 H0 (ok.blkx s H _ C cl fp xe ps) true _ h7 h8).1, he.1 H0 (ok.blkx s H _ C cl fp xe ps) false _ h5⟩) (fold_ns h6 _))) fun σ H Q z => s_lcf_key h4 z)
    · cases h
  · unfold chk at h
    split at h
    · rfl
    · cases h
/-- name = [..], one line, the name a local -/
theorem ps_setC {i : Nat} {y : Str} {py spos : Pos} {x : Expr} {sc : Scope} {fc : Str → Bool} {X : Cx} {E : XK} {H0 : Hp} (ok : CxOk T sc fc X E) {elt : C} {tg : Tg} {it : It'} {ws : List (Str × Nat)} (he : Snd T elt) (hi : SndI T it) (h : chk T (.lc elt tg it ws) sc false x = true)
    (hy : X.N[i]? = some y) (hyl : X.env.scope.names.lookup y = some .local) (hsw : swapsWith x (some (.Name y py)) spos.line X.env = pure true) : PS X (.Assign [.Name y py] x spos) (tAsg (tLc (rdI T.Γ X.K E H0 it) (gOf X.K tg) tYes (rd T.Γ X.K E H0 false elt) (ws.map (·.2))) (gName i)) := by
  unfold chk at h
  split at h
  · simp only [Bool.and_eq_true] at h
    obtain ⟨⟨⟨⟨⟨h1, h2⟩, h3⟩, h4⟩, h5⟩, h6⟩ := h
    exact ps_setLcx ok.pass ok.calm (cx_nd ok) hy hyl hsw (hi H0 ok _ _ h1) (blkOk_at ok h2) (fun s H C cl fp xe ps => ⟨pg_ok (ok.blkx s H _ C cl fp xe ps) h3, pts_nil, he.1 H0 (ok.blkx s H _ C cl fp xe ps) false _ h5⟩) (fold_ns h6 _)
  · cases h
theorem ps_setF {i : Nat} {y : Str} {py spos : Pos} {x : Expr} {sc : Scope} {fc : Str → Bool} {X : Cx} {E : XK} {H0 : Hp} (ok : CxOk T sc fc X E) {elt : C} {tg : Tg} {it : It'} {c : C} {ws : List (Str × Nat)} (he : Snd T elt) (hi : SndI T it) (hc : Snd T c) (h : chk T (.lcf elt tg it c ws) sc false x = true)
    (hy : X.N[i]? = some y) (hyl : X.env.scope.names.lookup y = some .local) (hsw : swapsWith x (some (.Name y py)) spos.line X.env = pure true) : PS X (.Assign [.Name y py] x spos) (tAsg (tLc (rdI T.Γ X.K E H0 it) (gOf X.K tg) (rdT T.Γ X.K E H0 c) (rd T.Γ X.K E H0 false elt) (ws.map (·.2))) (gName i)) := by
  unfold chk at h
  split at h
  · simp only [Bool.and_eq_true] at h
    obtain ⟨⟨⟨⟨⟨⟨⟨h1, h2⟩, h3⟩, h4⟩, h5⟩, h6⟩, h7⟩, h8⟩ := h
    exact ps_setLcx ok.pass ok.calm (cx_nd ok) hy hyl hsw (hi H0 ok _ _ h1) (blkOk_at ok h2) (fun s H C cl fp xe ps => ⟨pg_ok (ok.blkx s H _ C cl fp xe ps) h3, pts_one (hc.2 H0 (ok.blkx s H _ C cl fp xe ps) true _ h7 h8).1, he.1 H0 (ok.blkx s H _ C cl fp xe ps) false _ h5⟩) (fold_ns h6 _)
  · cases h
end
end Cg

set_option maxHeartbeats 1000000
namespace Cg
open PySem PySem.Spec PyProof.Rows L2
theorem wipe2 (σ : L2.St) (ws : List Nat) : wipe (wipe σ ws) ws = wipe σ ws := by
  have gen : ∀ us vs : List Nat, (∀ v ∈ vs, v ∈ us) → wipe (wipe σ vs) us = wipe σ us := by
    intro us vs
    induction vs with
    | nil => intro _; rfl
    | cons v vs ih =>
      intro h
      show wipe ((wipe σ vs).set v none) us = _
      rw [wipe_set (h v List.mem_cons_self)]
      exact ih fun u hu => h u (List.mem_cons_of_mem _ hu)
  exact gen ws ws fun _ h => h
theorem flatR_ne (f : PyData → Res (List PyData)) (k : Str) : ∀ xs, flatR f xs ≠ .exc k
  | [] => fun h => by cases h
  | x :: xs => by
    have ih := flatR_ne f k xs
    unfold flatR
    cases h2 : (f x).quiet with
    | ok y =>
      rw [bind_ok]
      cases h3 : flatR f xs with
      | ok ys => intro h; cases h
      | exc k' => intro h; cases h; exact ih h3
      | no => intro h; cases h
    | exc k' => cases h4 : f x <;> rw [h4] at h2 <;> cases h2
    | no => intro h; cases h
/-- the heap without D -/
def outD (H : Hp) (D : Addr) : Hp := fun a => if a = D then none else H a
theorem outD_ne {H : Hp} {D a : Addr} (h : a ≠ D) : outD H D a = H a := by unfold outD; rw [if_neg h]
theorem outD_of {H : Hp} {D a : Addr} {o : HO} (h : outD H D a = some o) : a ≠ D ∧ H a = some o := by
  unfold outD at h
  split at h
  · cases h
  · exact ⟨by assumption, h⟩
section
variable {K : PySem.W.Frag} {H0 : Hp}
theorem lc2_run {e : Ev} {σ : L2.St} {H1 : Hp} {J : It} {xs ys : List PyData} {ws ws' : List Nat} {tg tg' : Tg} {wi1 : TI} {te : TE} {Q : VK} {g : Ev → Res (List PyData)} {f2 : Ev → Res PyData} (st : StOk K H0 e σ H1) (it : ItOk K J H1 xs) (hw : ∀ i ∈ tgIx tg, i ∈ ws) (hw' : ∀ i ∈ tgIx tg', i ∈ ws')
    (hr : flatR (fun x => (bindT tg x (wipeV e ws)).bind fun e' => (g e').bind fun zs => mapR (fun y => (bindT tg' y (wipeV e' ws')).bind (fun e'' => f2 e'')) zs) xs = .ok ys) (hz : ys.length ≤ sizeLine)
    (hg : ∀ e' zs, g e' = .ok zs → ∀ σ2 H' (R : It → Hp → Prop), StOk K H0 e' σ2 H' → (∀ J H'', Same H' H'' → ItOk K J H'' zs → R J H'') → wi1 σ2 H' R)
    (hf : ∀ y e'', f2 e'' = .ok y → ∀ σ2 H' R, StOk K H0 e'' σ2 H' → (∀ v H'', Same H' H'' → Rp K H'' v y → R v H'') → te σ2 H' R)
    (q : ∀ D H' acc, Same H1 H' → H1 D = none → H' D = some (.lst acc) → RpAll K H' acc ys → Q (.ref D) H') :
    ∀ D, H1 D = none → ∃ W : Nat → Nat → Hp → Prop, (∃ m, W 0 m (upd H1 D (.lst []))) ∧ ∀ i m H, W i m H →
  (J.stop i H ∧ Q (.ref D) H) ∨ (J.go i H ∧ ∃ Nx : Hp → Prop, (∀ H', Nx H' → ∃ m', m' < m ∧ W (i + 1) m' H') ∧ ∀ x H', J.yld i H x H' → gOf K tg x (wipe σ ws) H' fun σ2 H2 => wipe σ2 ws = wipe σ ws ∧ tYes σ2 H2 fun b H3 =>
    if b = true then wi1 σ2 H3 fun J1 H4 => ∃ W1 : Nat → Nat → Hp → Prop, (∃ m, W1 0 m H4) ∧ ∀ j k H, W1 j k H →
      (J1.stop j H ∧ Nx H) ∨ (J1.go j H ∧ ∃ Nx1 : Hp → Prop, (∀ H', Nx1 H' → ∃ k', k' < k ∧ W1 (j + 1) k' H') ∧ ∀ x H', J1.yld j H x H' → gOf K tg' x (wipe σ2 ws') H' fun σ3 H5 => wipe σ3 ws' = wipe σ2 ws' ∧ tYes σ3 H5 fun b H6 =>
        if b = true then te σ3 H6 fun y H7 => ∃ acc, H7 D = some (.lst acc) ∧ acc.length < sizeLine ∧ Nx1 (upd H7 D (.lst (acc ++ [y]))) else Nx1 H6)
    else Nx H3) := by
  intro D hD
  generalize hF : (fun x => (bindT tg x (wipeV e ws)).bind fun e' => (g e').bind fun zs => mapR (fun y => (bindT tg' y (wipeV e' ws')).bind (fun e'' => f2 e'')) zs) = F at hr
  refine ⟨fun i m H => m = xs.length - i ∧ i ≤ xs.length ∧ LcInv K H1 D ys (flatR F (xs.drop i)) H, ⟨xs.length, by simp, Nat.zero_le _, .start hD (by simpa using hr)⟩, ?_⟩
  rintro i m H ⟨rfl, hi, p⟩
  have same : Same H1 H := p.1
  have hit := it i H (.of same)
  by_cases hlt : i < xs.length
  · have e1 : xs[i]? = some xs[i] := List.getElem?_eq_getElem hlt
    rw [e1] at hit
    obtain ⟨go, yl⟩ := hit
    refine .inr ⟨go, LcInv K H1 D ys (flatR F (xs.drop (i + 1))), fun H' p' => ⟨xs.length - (i + 1), by omega, rfl, hlt, p'⟩, fun x H' y => ?_⟩
    obtain ⟨s2, rx⟩ := yl x H' y
    have p2 := p.grown s2
    rw [drop_at e1] at p2
    have p3 := p2
    obtain ⟨sA, accA, _, rs, hDA, _, h3, _⟩ := p2
    unfold flatR at h3
    obtain ⟨b, hb, h3⟩ := bind_eq h3
    have hb := quiet_eq hb
    obtain ⟨rs2, hrs2, h3⟩ := bind_eq h3
    cases h3
    have hb2 := hb
    rw [← hF] at hb2
    obtain ⟨e', he', hb2⟩ := bind_eq hb2
    obtain ⟨zs, hzs, hb2⟩ := bind_eq hb2
    rw [mapR_fil'] at hb2
    have sG : Same H1 (outD H' D) := fun a o z => by
      rw [outD_ne (ne_of_none z hD)]
      exact sA a o z
    have kfG : ∀ {H' : Hp} {acc : List V}, H' D = some (.lst acc) → KeepF H' (outD H' D) := fun {H'} {acc} hD' a o z f => by
      rw [outD_ne]
      · exact z
      · rintro rfl
        rw [hD'] at z
        cases z
        exact f
    have st2 : StOk K H0 (wipeV e ws) (wipe σ ws) (outD H' D) := (st.mono sG).wipe ws
    refine g_okG st2 rx (kfG hDA) he' fun σ2 st3 w => ⟨?_, ?_⟩
    · rw [w ws hw]
      exact wipe2 σ ws
    · show wi1 σ2 H' _
      have sO : Same (outD H' D) H' := fun a o z => (outD_of z).2
      refine hg e' zs hzs σ2 H' _ (st3.mono sO) fun J1 H4 s4 it4 => ?_
      have hD4 : H4 D = some (.lst accA) := s4 _ _ hDA
      have p5 := p3.grown s4
      refine ⟨fun j k H => k = zs.length - j ∧ j ≤ zs.length ∧ Same (outD H4 D) H ∧ LcInv K H1 D ys ((filR (fun y => (bindT tg' y (wipeV e' ws')).bind fun _ => .ok true) (fun y => (bindT tg' y (wipeV e' ws')).bind fun e'' => f2 e'') (zs.drop j)).bind fun r => (flatR F (xs.drop (i + 1))).bind fun ys' => .ok (r ++ ys')) H,
        ⟨zs.length, by simp, Nat.zero_le _, fun a o z => (outD_of z).2, ?_⟩, ?_⟩
      · have ee : flatR F (xs[i] :: xs.drop (i + 1)) = (filR (fun y => (bindT tg' y (wipeV e' ws')).bind fun _ => .ok true) (fun y => (bindT tg' y (wipeV e' ws')).bind fun e'' => f2 e'') (zs.drop 0)).bind fun r => (flatR F (xs.drop (i + 1))).bind fun ys' => .ok (r ++ ys') := by
          rw [List.drop_zero, hb2]
          conv => lhs; unfold flatR
          rw [hb]
          rfl
        rw [← ee]
        exact p5
      · rintro j k Hj ⟨rfl, hj, sj, pj⟩
        have kf4 : KeepF H4 Hj := fun a o z f => sj _ _ (kfG hD4 a o z f)
        have hitj := it4 j Hj kf4
        have stj : StOk K H0 e' σ2 Hj := st3.mono fun a o z => by
          obtain ⟨n1, n2⟩ := outD_of z
          exact sj a o (by rw [outD_ne n1]; exact s4 _ _ n2)
        by_cases hltj : j < zs.length
        · have e2 : zs[j]? = some zs[j] := List.getElem?_eq_getElem hltj
          rw [e2] at hitj
          obtain ⟨go2, yl2⟩ := hitj
          refine .inr ⟨go2, fun H => Same (outD H4 D) H ∧ LcInv K H1 D ys ((filR (fun y => (bindT tg' y (wipeV e' ws')).bind fun _ => .ok true) (fun y => (bindT tg' y (wipeV e' ws')).bind fun e'' => f2 e'') (zs.drop (j + 1))).bind fun r => (flatR F (xs.drop (i + 1))).bind fun ys' => .ok (r ++ ys')) H,
            fun H' p' => ⟨zs.length - (j + 1), by omega, rfl, hltj, p'⟩, fun x2 H5 y2 => ?_⟩
          obtain ⟨s5, rx2⟩ := yl2 x2 H5 y2
          have pj2 := pj.grown s5
          rw [drop_at e2] at pj2
          have pj3 := pj2
          obtain ⟨_, _, _, rj, _, _, hj3, _⟩ := pj2
          obtain ⟨r1, hr1, hj3⟩ := bind_eq hj3
          have hr1' := hr1
          unfold filR at hr1
          obtain ⟨b1, hb1, hr1⟩ := bind_eq hr1
          obtain ⟨e'', he'', hb1⟩ := bind_eq hb1
          cases hb1
          rw [if_pos rfl] at hr1
          obtain ⟨z1, hz1, hr1⟩ := bind_eq hr1
          obtain ⟨z2, hz2, hr1⟩ := bind_eq hr1
          cases hr1
          rw [he''] at hz1
          have hz1 : f2 e'' = .ok z1 := hz1
          refine g_ok ((stj.mono s5).wipe ws') rx2 he'' fun σ3 st6 w6 => ⟨?_, ?_⟩
          · rw [w6 ws' hw']
            exact wipe2 σ2 ws'
          · dsimp only [tYes]
            rw [if_pos rfl]
            refine hf _ _ hz1 σ3 H5 _ st6 fun v H7 s7 r7 => ?_
            have pj4 := pj3.grown s7
            obtain ⟨acc, a1, a2, a3⟩ := pj4.push (rest' := (filR (fun y => (bindT tg' y (wipeV e' ws')).bind fun _ => .ok true) (fun y => (bindT tg' y (wipeV e' ws')).bind fun e'' => f2 e'') (zs.drop (j + 1))).bind fun r => (flatR F (xs.drop (i + 1))).bind fun ys' => .ok (r ++ ys'))
              hD hz (d := z1) ⟨z2 ++ rs2, by rw [hz2, hrs2]; rfl, by rw [hr1', hrs2]; rfl⟩ r7
            refine ⟨acc, a1, a2, fun a o z => ?_, a3⟩
            obtain ⟨n1, n2⟩ := outD_of z
            rw [upd_ne n1]
            exact s7 _ _ (s5 _ _ (sj a o z))
        · have e2 : j = zs.length := by omega
          subst e2
          rw [List.getElem?_eq_none (Nat.le_refl _)] at hitj
          rw [List.drop_length] at pj
          refine .inl ⟨hitj rfl, ?_⟩
          have ee : ((filR (fun y => (bindT tg' y (wipeV e' ws')).bind fun _ => .ok true) (fun y => (bindT tg' y (wipeV e' ws')).bind fun e'' => f2 e'') []).bind fun r => (flatR F (xs.drop (i + 1))).bind fun ys' => .ok (r ++ ys')) = flatR F (xs.drop (i + 1)) := by
            rw [hrs2]
            rfl
          rw [ee] at pj
          exact pj
  · have e1 : i = xs.length := by omega
    subst e1
    rw [List.getElem?_eq_none (Nat.le_refl _)] at hit
    rw [List.drop_length] at p
    exact .inl ⟨hit rfl, p.doneU hD q⟩
end
section
variable {T : Tx}
theorem s_lc2_key {elt : C} {tg tg' : Tg} {it it' : It'} {ws : List (Str × Nat)} {ws' : List Nat} {K : PySem.W.Frag} {E : XK} {H0 : Hp} (hw : sub1 (ws.map (·.2)) (tgIx tg) = true) (hw' : sub1 ws' (tgIx tg') = true) {σ : L2.St} {H : Hp} {Q : VK} (h : rd T.Γ K E H0 false (.lc2 elt tg it tg' it' ws ws') σ H Q) :
    tLc2 (rdI T.Γ K E H0 it) (gOf K tg) tYes (rdI T.Γ K E0 H0 it') (gOf K tg') tYes (rd T.Γ K E0 H0 false elt) (ws.map (·.2)) ws' σ H (LK Q) := by
  obtain ⟨e, st, p⟩ := h
  rw [evE] at p
  refine ⟨e, st, p.bind.imp fun xs H1 s1 p1 J itok => ?_⟩
  obtain ⟨ys, e1, p1⟩ := p1.bind.ok (fun k => flatR_ne _ k xs)
  obtain ⟨d, e2, p2⟩ := (p1 H1 (Same.refl _)).ok (listD_ne ys)
  obtain ⟨rfl, hz⟩ := listD_ok e2
  refine lc2_run (g := fun e' => evI T.Γ it' e') (f2 := fun e'' => evE T.Γ elt e'') (st.mono s1) itok (sub1_ok hw) (sub1_ok hw') e1 hz (fun e' zs h1 σ2 H' R st2 q => ⟨e', st2, ?_⟩) (fun y e' hf σ2 H' R st2 q => ⟨e', st2, ?_⟩) fun D H' acc s h1 h2 r => lock_new s h1 h2 r fun v H' s r => p2 H' s v r
  · rw [h1]
    exact fun H'' s J r => q J H'' s r
  · have hf : evE T.Γ elt e' = .ok y := hf
    rw [hf]
    exact fun H'' s v r => q v H'' s r
theorem psC_imp {X : Cx} {s : Stmt} {t t' : TS} (h : PS X s t) (i : ∀ D σ H, t' D σ H → t D σ H) : PS X s t' := ⟨fun pins s σ H D I z => h.run pins s σ H D I (i _ _ _ z)⟩
theorem u_lc2_key {elt : C} {tg tg' : Tg} {it it' : It'} {ws : List (Str × Nat)} {ws' : List Nat} {K : PySem.W.Frag} {E : XK} {H0 : Hp} (hw : sub1 (ws.map (·.2)) (tgIx tg) = true) (hw' : sub1 ws' (tgIx tg') = true) {σ : L2.St} {H : Hp} {Q : VK} (h : rdU T.Γ K E H0 (.lc2 elt tg it tg' it' ws ws') σ H Q) :
    tLc2 (rdI T.Γ K E H0 it) (gOf K tg) tYes (rdI T.Γ K E0 H0 it') (gOf K tg') tYes (rd T.Γ K E0 H0 false elt) (ws.map (·.2)) ws' σ H Q := by
  obtain ⟨e, st, p⟩ := h
  rw [evE] at p
  refine ⟨e, st, p.bind.imp fun xs H1 s1 p1 J itok => ?_⟩
  obtain ⟨ys, e1, p1⟩ := p1.bind.ok (fun k => flatR_ne _ k xs)
  obtain ⟨d, e2, p2⟩ := (p1 H1 (Same.refl _)).ok (listD_ne ys)
  obtain ⟨rfl, hz⟩ := listD_ok e2
  refine lc2_run (g := fun e' => evI T.Γ it' e') (f2 := fun e'' => evE T.Γ elt e'') (st.mono s1) itok (sub1_ok hw) (sub1_ok hw') e1 hz (fun e' zs h1 σ2 H' R st2 q => ⟨e', st2, ?_⟩) (fun y e' hf σ2 H' R st2 q => ⟨e', st2, ?_⟩) fun D H' acc s h1 h2 r => ?_
  · rw [h1]
    exact fun H'' s J r => q J H'' s r
  · have hf : evE T.Γ elt e' = .ok y := hf
    rw [hf]
    exact fun H'' s v r => q v H'' s r
  · obtain ⟨ys', ey, q⟩ := p2 H1 (Same.refl _)
    cases ey
    exact q D H' acc s h1 h2 r
theorem u_lc2 {elt : C} {tg tg' : Tg} {it it' : It'} {ws : List (Str × Nat)} {ws' : List Nat} (he : Snd T elt) (hi : SndI T it) (hi' : SndI T it') {sc : Scope} {fc : Str → Bool} {X : Cx} {E : XK} (H0 : Hp) (ok : CxOk T sc fc X E) {x : Expr} (h : chk T (.lc2 elt tg it tg' it' ws ws') sc false x = true) : PE X x (rdU T.Γ X.K E H0 (.lc2 elt tg it tg' it' ws ws')) := by
  unfold chk at h
  split at h
  · simp only [Bool.and_eq_true] at h
    obtain ⟨⟨⟨⟨⟨⟨⟨⟨⟨⟨h1, h2⟩, h3⟩, h4⟩, h5⟩, h6⟩, h7⟩, h8⟩, h9⟩, h10⟩, h11⟩ := h
    exact pe_imp (pe_lc2 ok.calm (cx_nd ok) (hi H0 ok _ _ h1) (blkOk_at ok h2) (sub1_ok h10) (fun s H C cl fp => pg_ok (ok.blk s H _ C cl fp) h3) (fun s H C cl fp => pts_nil) (fun s H C cl fp => hi' H0 (ok.blk s H _ C cl fp) _ _ h7) (fun s H C cl fp => pg_ok (ok.blk s H _ C cl fp) h8) (fun s H C cl fp => pts_nil) (fun s H C cl fp => he.1 H0 (ok.blk s H _ C cl fp) false _ h5) (fold_ns h6 _) (fun env => fold_ns h11 env)) fun σ H Q z => u_lc2_key h4 h9 z
  · cases h
theorem ps_setC2 {i : Nat} {y : Str} {py spos : Pos} {x : Expr} {sc : Scope} {fc : Str → Bool} {X : Cx} {E : XK} {H0 : Hp} (ok : CxOk T sc fc X E) {elt : C} {tg tg' : Tg} {it it' : It'} {ws : List (Str × Nat)} {ws' : List Nat} (he : Snd T elt) (hi : SndI T it) (hi' : SndI T it') (h : chk T (.lc2 elt tg it tg' it' ws ws') sc false x = true)
    (hy : X.N[i]? = some y) (hyl : X.env.scope.names.lookup y = some .local) (hsw : swapsWith x (some (.Name y py)) spos.line X.env = pure true) : PS X (.Assign [.Name y py] x spos) (tAsg (rdU T.Γ X.K E H0 (.lc2 elt tg it tg' it' ws ws')) (gName i)) := by
  unfold chk at h
  split at h
  · simp only [Bool.and_eq_true] at h
    obtain ⟨⟨⟨⟨⟨⟨⟨⟨⟨⟨h1, h2⟩, h3⟩, h4⟩, h5⟩, h6⟩, h7⟩, h8⟩, h9⟩, h10⟩, h11⟩ := h
    exact psC_imp (ps_setLc2 ok.calm (cx_nd ok) hy hyl hsw (hi H0 ok _ _ h1) (blkOk_at ok h2) (sub1_ok h10) (fun s H C cl fp => pg_ok (ok.blk s H _ C cl fp) h3) (fun s H C cl fp => pts_nil) (fun s H C cl fp => hi' H0 (ok.blk s H _ C cl fp) _ _ h7) (fun s H C cl fp => pg_ok (ok.blk s H _ C cl fp) h8) (fun s H C cl fp => pts_nil) (fun s H C cl fp => he.1 H0 (ok.blk s H _ C cl fp) false _ h5) (fold_ns h6 _) (fun env => fold_ns h11 env)) fun D σ H z => u_lc2_key h4 h9 z
  · cases h
theorem s_lc2 {elt : C} {tg tg' : Tg} {it it' : It'} (ws : List (Str × Nat)) (ws' : List Nat) (he : Snd T elt) (hi : SndI T it) (hi' : SndI T it') : Snd T (.lc2 elt tg it tg' it' ws ws') := by
  refine .plain (fun {sc fc X E} H0 ok b x h => ?_) (fun sc b x h => ?_)
  · unfold chk at h
    split at h
    · simp only [Bool.and_eq_true] at h
      obtain ⟨⟨⟨⟨⟨⟨⟨⟨⟨⟨h1, h2⟩, h3⟩, h4⟩, h5⟩, h6⟩, h7⟩, h8⟩, h9⟩, h10⟩, h11⟩ := h
      exact toB (pe_imp (pe_lk (pe_lc2 ok.calm (cx_nd ok) (hi H0 ok _ _ h1) (blkOk_at ok h2) (sub1_ok h10) (fun s H C cl fp => pg_ok (ok.blk s H _ C cl fp) h3) (fun s H C cl fp => pts_nil) (fun s H C cl fp => hi' H0 (ok.blk s H _ C cl fp) _ _ h7) (fun s H C cl fp => pg_ok (ok.blk s H _ C cl fp) h8) (fun s H C cl fp => pts_nil) (fun s H C cl fp => he.1 H0 (ok.blk s H _ C cl fp) false _ h5) (fold_ns h6 _) (fun env => fold_ns h11 env))) fun σ H Q z => s_lc2_key h4 h9 z)
    · cases h
  · unfold chk at h
    split at h
    · rfl
    · cases h
/-! ### 17. every form -/
mutual
theorem sndE : ∀ c : C, Snd T c
  | .var i => s_var i
  | .bor i => s_bor i
  | .int k => s_int k
  | .str x => s_str x
  | .bl b => s_bl b
  | .non => s_non
  | .glo x d => s_glo x d
  | .tup es => s_tup (sndA es)
  | .lst es => s_lst (sndA es)
  | .rep es k => s_rep k (sndA es)
  | .bin op a b => s_bin op (sndE a) (sndE b)
  | .neg a => s_neg (sndE a)
  | .nt a => s_nt (sndE a)
  | .cmp op a b => s_cmp op (sndE a) (sndE b)
  | .chn op op' a b c => s_chn op op' (sndE a) (sndE b) (sndE c)
  | .and a b => s_and (sndE a) (sndE b)
  | .or a b => s_or (sndE a) (sndE b)
  | .and1 a => s_and1 (sndE a)
  | .or1 a => s_or1 (sndE a)
  | .ife c a b => s_ife (sndE c) (sndE a) (sndE b)
  | .ix a i => s_ix (sndE a) (sndE i)
  | .slc a lo hi => s_slc (sndE a) (sndO lo) (sndO hi)
  | .rev a => s_rev (sndE a)
  | .isi t a => s_isi t (sndE a)
  | .call k es => s_call k (sndA es)
  | .blt f es => s_blt f (sndA es)
  | .sset e => s_sset (sndE e)
  | .lset e => s_lset (sndE e)
  | .stk => s_stk
  | .inr a n => s_inr (sndE a) (sndE n)
  | .rgL t (.rng1 a) => s_rgL t _ (fun a' e => by cases e; exact sndE a) (fun _ _ e => by cases e)
  | .rgL t (.rng2 a b) => s_rgL t _ (fun _ e => by cases e) (fun _ _ e => by cases e; exact ⟨sndE a, sndE b⟩)
  | .rgL t (.val e) => s_no fun sc b x => by unfold chk; split <;> simp [isRng]
  | .rgL t (.zip a b) => s_no fun sc b x => by unfold chk; split <;> simp [isRng]
  | .rgL t (.enu a) => s_no fun sc b x => by unfold chk; split <;> simp [isRng]
  | .rgL t (.zip1 a b) => s_no fun sc b x => by unfold chk; split <;> simp [isRng]
  | .cal ks i es => s_cal ks (sndE i) (sndA es)
  | .mth o m a => s_mth m (sndE o) (sndE a)
  | .lc elt tg it ws => s_lc ws (sndE elt) (sndI it)
  | .lcf elt tg it cond ws => s_lcf ws (sndE elt) (sndI it) (sndE cond)
  | .lc2 elt tg it tg' it' ws ws' => s_lc2 ws ws' (sndE elt) (sndI it) (sndI it')
theorem sndA : ∀ c : Cs, SndA T c
  | .nil => s_nil
  | .cons c cs => s_cons (sndE c) (sndA cs)
theorem sndO : ∀ c : Op, SndO T c
  | .none => s_onone
  | .some c => s_osome (sndE c)
theorem sndI : ∀ c : It', SndI T c
  | .val e => s_val (sndE e)
  | .rng1 a => s_rng1 (sndE a)
  | .rng2 a b => s_rng2 (sndE a) (sndE b)
  | .zip a b => s_zip (sndE a) (sndE b)
  | .enu a => s_enu (sndE a)
  | .zip1 a b => s_zip1 (sndE a) (sndE b)
end
end
end Cg

set_option maxHeartbeats 1000000
namespace Cg
open PySem PySem.Spec PyProof.Rows L2
/-! ### 18. statements: what is checked -/
def notComp : Expr → Bool
  | .ListComp _ _ _ _ => false
  | .SetComp _ _ _ _ => false
  | .DictComp _ _ _ _ _ => false
  | _ => true
def notDebug (x : Str) : Bool := !(x == ("__debug__" : Str)) && !(x == ("__classdict__" : Str))
def isLC : C → Bool
  | .lc2 .. => true
  | .lc _ _ _ _ => true
  | .lcf _ _ _ _ _ => true
  | _ => false
/-- x = e' : how the store goes -/
def asgOk (sc : Scope) (x : Str) (px : Pos) (c : C) (e : Expr) : Bool := match e with
  | .ListComp _ gs scope p => isLC c && (match sc.names.lookup x with
    | some .local => (px.line == p.line) && !(scope.names.any fun (n, k) => n == x && (k == .local || k == .cell))
    | some .cell => true
    | _ => false)
  | .SetComp _ _ _ _ => false
  | .DictComp _ _ _ _ _ => false
  | _ => true
/-- what makes a new list that may still change -/
def ownC : C → Bool
  | .lst _ => true
  | .lc2 .. => true
  | .lc _ _ _ _ => true
  | .lcf _ _ _ _ _ => true
  | _ => false
def swStar : Expr → Bool
  | .Starred .. => true
  | _ => false
def swLine (ts : List Expr) : Nat := (ts.head?.map (·.pos.line)).getD 0
def swName (look : Str → Option NameKind) (line : Nat) : Expr → Option Str
  | .Name id pos => if look id == some .local && pos.line == line then some id else none
  | _ => none
def swP (sc : Scope) (ts vs : List Expr) : Option (Option (List Str)) :=
  if (!(ts.length == 2 || ts.length == 3) || vs.length != ts.length) = true then some none else
  if (vs.any swStar) = true then some none else
  if ((ts.filterMap (swName (fun x => sc.names.lookup x) (swLine ts))).length != ts.length || (ts.filterMap (swName (fun x => sc.names.lookup x) (swLine ts))).eraseDups.length != (ts.filterMap (swName (fun x => sc.names.lookup x) (swLine ts))).length) = true then some none else
  if (vs.all (foldedForSure 8)) = true then some none else
  if (vs.all (constantsAlone 8)) = true then none else some (some (ts.filterMap (swName (fun x => sc.names.lookup x) (swLine ts))))
def fcT : Str → Bool := fun _ => true
/-- {x: k}, a new dict that may still change -/
def dspC (T : Tx) (sc : Scope) : C → Expr → Bool
  | .blt .dict (.cons (.lst (.cons (.tup (.cons (.var i) (.cons (.int k) .nil))) .nil)) .nil), x => match x with
    | .Dict [some (.Name y p)] [.Constant (.int j) q z] _ => chk T (.var i) sc false (.Name y p) && chk T (.int k) sc false (.Constant (.int j) q z)
    | _ => false
  | _, _ => false
def parC (T : Tx) (sc : Scope) : List (Bool × C) → List Expr → Bool
  | [], [] => true
  | (b, c) :: cs, x :: xs => notStar x && ((chk T c sc false x && (!b || ownC c)) || (b && dspC T sc c x)) && parC T sc cs xs
  | _, _ => false
/-- the store of several at once -/
def parOk (T : Tx) (sc : Scope) (is : List Nat) (ts vs : List Expr) : Bool := match swP sc ts vs with
  | some none => stCs T sc fcT is ts && decide (is.length ≤ 100)
  | some (some names) => (match is, ts, vs, names with
    | [i, j], [.Name x _, .Name y _], [_, _], [x', y'] => decide (x = x') && decide (y = y') && stC T sc fcT i x && stC T sc fcT j y && decide (i ≠ j) && decide (sc.names.lookup x = some .local) && decide (sc.names.lookup y = some .local)
    | _, _, _, _ => false)
  | none => false
/-- no slice -/
def noSlB : Expr → Bool
  | .Slice _ _ _ _ => false
  | .Tuple _ _ _ => true
  | .Name _ _ => true
  | _ => false
/-- isinstance(n, k) for each k -/
def flC (T : Tx) (sc : Scope) (n : Str) : List Str → List Expr → Bool
  | [], [] => true
  | k :: ks, .Call (.Name f _) [.Name x _, .Name y _] [] _ :: es => decide (f = "isinstance") && blC T sc f && decide (x = n) && decide (y = k) && glC sc y && T.hx.contains k && flC T sc n ks es
  | _, _ => false
/-- (x + [..]).index(True) -/
def ixC (T : Tx) (sc : Scope) (n : Str) (i : Nat) (g : List Str) : Expr → Bool
  | .Call (.Attribute (.BinOp (.Name x _) .Add (.List es _) _) m apos) [.Constant (.bool b) _ _] [] cpos => decide (m = "index") && b && nmC T sc i x && flC T sc n g es && (apos.endLine == cpos.line)
  | _ => false
/-- an except suite -/
def hdC (T : Tx) (sc : Scope) (n : Str) : Hd → List Stmt → Bool
  | .flg i g1 g2 g3 tag, [.Assign [.Name x px] (.List es1 _) _, .Assign [.Name y py] (.BinOp (.Name z _) .Add (.List es2 _) _) _, .Return (some r) _] => decide (x ≠ n) && decide (y = x) && stC T sc fcT i x && flC T sc n g1 es1 && stC T sc fcT i y && nmC T sc i z && flC T sc n g2 es2 && decide (g1.length ≤ 20) && decide (g2.length ≤ 20) && decide (g3.length ≤ 20) && (match tag, r with
    | none, r => ixC T sc n i g3 r
    | some t, .Tuple [.Constant (.str u) _ _, r] _ _ => decide (u = t) && ixC T sc n i g3 r
    | _, _ => false)
  | .one g, [.Return (some (.Call (.Attribute (.List es _) m apos) [.Constant (.bool b) _ _] [] cpos)) _] => decide (m = "index") && b && flC T sc n g es && (apos.endLine == cpos.line) && decide (g.length ≤ 20)
  | .isR g k, [.Return (some e) _] => flC T sc n [k] [e] && (g.all fun x => T.hx.contains x)
  | .noR g k t, [.Return (some (.IfExp e (.Constant .none _ _) (.Constant (.str u) _ _) _)) _] => flC T sc n [k] [e] && decide (u = t) && (g.all fun x => T.hx.contains x)
  | _, _ => false
mutual
def chkS (T : Tx) : S → Scope → Stmt → Bool
  | .asg i c, sc, s => match s with
    | .Assign [.Name x px] e _ => stC T sc fcT i x && chk T c sc false e && asgOk sc x px c e
    | _ => false
  | .own i c, sc, s => match s with
    | .Assign [.Name x px] e _ => stC T sc fcT i x && chk T c sc false e && asgOk sc x px c e && ownC c
    | _ => false
  | .dnew i _, sc, s => match s with
    | .Assign [.Name x _] (.Dict [] [] _) _ => stC T sc fcT i x
    | _ => false
  | .asgT is c, sc, s => match s with
    | .Assign [.Tuple ts _ _] e _ => stCs T sc fcT is ts && chk T c sc false e && notComp e && !isTupE e
    | _ => false
  | .par is cs, sc, s => match s with
    | .Assign [.Tuple ts _ _] (.Tuple vs _ _) _ => parC T sc cs vs && parOk T sc is ts vs
    | _ => false
  | .dput i k v, sc, s => match s with
    | .Assign [.Subscript (.Name x _) xi _] e _ => nmC T sc i x && chk T k sc false xi && chk T v sc false e && noSlB xi
    | _ => false
  | .app i c, sc, s => match s with
    | .Expr (.Call (.Attribute (.Name x _) m apos) [e] [] cpos) _ => decide (m = "append") && nmC T sc i x && chk T c sc false e && notStar e && (apos.endLine == cpos.line)
    | _ => false
  | .ext i c, sc, s => match s with
    | .Expr (.Call (.Attribute (.Name x _) m apos) [e] [] cpos) _ => decide (m = "extend") && nmC T sc i x && chk T c sc false e && notStar e && (apos.endLine == cpos.line) && ownC c
    | _ => false
  | .ret c, sc, s => match s with
    | .Return (some e) _ => chk T c sc false e
    | _ => false
  | .retN, sc, s => match s with
    | .Return none _ => true
    | _ => false
  | .ife c t f, sc, s => match s with
    | .If e a b _ => chk T c sc true e && tstC c && chkSs T t sc a && chkSs T f sc b
    | _ => false
  | .for_ tg it body, sc, s => match s with
    | .For t e a [] _ => tgC T sc fcT tg t && chkI T it sc t e && notSet e && chkSs T body sc a
    | _ => false
  | .whl n c body, sc, s => match s with
    | .While e a [] _ => chk T c sc true e && tstC c && chkSs T body sc a
    | _ => false
  | .frz _, _, _ => false
  | .stk, _, _ => true
  | .rse k, sc, s => match s with
    | .Raise (some (.Call (.Name x _) [.Constant (.str _) _ _] [] _)) none _ => decide (x = k) && glC sc x && T.ex.contains k
    | _ => false
  | .drop c, sc, s => match s with
    | .Expr (.Constant (.str _) _ _) _ => (match c with
      | .non => true
      | _ => false)
    | .Expr e _ => chk T c sc true e && notComp e
    | _ => false
  | .try_ j b h, sc, s => match s with
    | .Try body [.ExceptHandler (some (.Name x _)) (some n) (b0 :: suite) _] [] [] _ => decide (x = "GearError") && glC sc x && decide (T.N[j]? = some n) && decide (sc.names.lookup n = some .local) && !T.hx.isEmpty && chkSs T b sc body && hdC T sc n h (b0 :: suite) && plN n
    | _ => false
def chkSs (T : Tx) : Ss → Scope → List Stmt → Bool
  | .nil, _, ss => match ss with
    | [] => true
    | _ => false
  | .cons s ss, sc, xs => match s with
    | .frz _ => chkSs T ss sc xs
    | s => (match xs with
      | x :: r => chkS T s sc x && chkSs T ss sc r
      | [] => false)
end
/-! ### 19. what is promised of statements -/
def PostF (K : PySem.W.Frag) (E : XK) (H0 H : Hp) (r : Res Fl) (D : Ends) : Prop := match r with
  | .ok (.nx e) => ∀ σ' H', StOk K H0 e σ' H' → KeepF H H' → D.nx σ' H'
  | .ok (.rt d) => ∀ v H', Same H0 H' → Rp K H' v d → D.rt v H'
  | .exc k => ∀ H', Same H0 H' → E (exV K k) none H'
  | .no => False
section
variable {K : PySem.W.Frag} {E : XK} {H0 H H' : Hp} {D : Ends}
theorem PostF.mono {r : Res Fl} (h : PostF K E H0 H r D) (k : KeepF H H') : PostF K E H0 H' r D := by
  cases r with
  | ok a => cases a with
    | nx e => exact fun σ H2 st k2 => h σ H2 st (k.trans k2)
    | rt d => exact h
  | exc k => exact h
  | no => exact h
theorem PostF.bind {α : Type} {r : Res α} {f : α → Res Fl} (h : PostF K E H0 H (r.bind f) D) (s0 : Same H0 H) : Post K E H r (fun a H1 => PostF K E H0 H1 (f a) D) := by
  cases r with
  | ok a => exact fun H1 s1 => PostF.mono (r := f a) h (.of s1)
  | exc k => exact fun H1 s1 => h H1 (s0.trans s1)
  | no => exact h
end
section
variable (Γ : Tb) (K : PySem.W.Frag) (E : XK) (H0 : Hp)
def rdS (s : S) : TS := fun D σ H => ∃ e, StOk K H0 e σ H ∧ PostF K E H0 H (evS Γ s e) D
def rdSs (s : Ss) : TS := fun D σ H => ∃ e, StOk K H0 e σ H ∧ PostF K E H0 H (evSs Γ s e) D
end
structure SxOk (T : Tx) (sc : Scope) (X : Cx) (E : XK) : Prop where
  cx : CxOk T sc fcT X E
  own : PassesOwn (model X.prog X.w) X.A X.env X.xe
  takes : Takes X (fun cls d _ H => E cls d H)
  kd : X.env.scope.kind = .function
  st : X.stack = X.env :: X.outer
  fr : X.env.frame = some X.env.locals
def SndS (T : Tx) (s : S) : Prop := ∀ {sc : Scope} {X : Cx} {E : XK} (H0 : Hp), SxOk T sc X E → ∀ x : Stmt, chkS T s sc x = true → PS X x (rdS T.Γ X.K E H0 s)
def SndSs (T : Tx) (s : Ss) : Prop := ∀ {sc : Scope} {X : Cx} {E : XK} (H0 : Hp), SxOk T sc X E → ∀ x : List Stmt, chkSs T s sc x = true → PSs X x (rdSs T.Γ X.K E H0 s)
theorem ps_imp {X : Cx} {s : Stmt} {t t' : TS} (h : PS X s t) (i : ∀ D σ H, t' D σ H → t D σ H) : PS X s t' := ⟨fun pins s σ H D I z => h.run pins s σ H D I (i _ _ _ z)⟩
theorem pss_imp {X : Cx} {s : List Stmt} {t t' : TS} (h : PSs X s t) (i : ∀ D σ H, t' D σ H → t D σ H) : PSs X s t' := ⟨fun pins s σ H D I z => h.run pins s σ H D I (i _ _ _ z)⟩
/-- the end, or the end once a thing is locked -/
def LKS (N : L2.St → Hp → Prop) : L2.St → Hp → Prop := fun σ H => N σ H ∨ ∃ a u, H a = some u ∧ Mut (some u) ∧ ∀ od, N σ (upd H a (.frz od u))
theorem ps_lkn {X : Cx} {s : Stmt} {t : TS} (h : PS X s t) : PS X s (fun D σ H => t { D with nx := LKS D.nx } σ H) := by
  refine ⟨fun pins s σ H D I z => thn (h.run pins s σ H _ I z) fun f s1 q => ?_⟩
  cases f with
  | next =>
    obtain ⟨σ', H', J, q⟩ := q
    rcases q with q | ⟨a, u, h1, h2, q⟩
    · exact ⟨σ', H', J, q⟩
    · obtain ⟨od, J2⟩ := J.lock h1 h2
      exact ⟨σ', _, J2, q od⟩
  | brk => exact q
  | cont => exact q
  | ret u => exact q
section
variable {T : Tx}
/-! blocks -/
theorem t_nil : SndSs T .nil := by
  intro sc X E H0 ok x h
  unfold chkSs at h
  split at h
  · refine pss_imp pss_nil fun D σ H ⟨e, st, p⟩ => ?_
    rw [evSs] at p
    exact p σ H st (KeepF.refl H)
  · cases h
theorem t_cons {s : S} {ss : Ss} (hs : SndS T s) (hr : SndSs T ss) (hn : ∀ i, s ≠ .frz i) : SndSs T (.cons s ss) := by
  intro sc X E H0 ok x h
  unfold chkSs at h
  split at h
  · exact absurd rfl (hn _)
  · split at h
    · rw [Bool.and_eq_true] at h
      refine pss_imp (pss_cons (hs H0 ok _ h.1) (hr H0 ok _ h.2)) fun D σ H ⟨e, st, p⟩ => ⟨e, st, ?_⟩
      rw [evSs] at p
      cases ee : evS T.Γ s e with
      | ok f =>
        rw [ee] at p
        cases f with
        | nx e1 =>
          have p : PostF X.K E H0 H (evSs T.Γ ss e1) D := p
          exact fun σ' H' st' k => ⟨e1, st', p.mono k⟩
        | rt d => exact p
      | exc k => rw [ee] at p; exact p
      | no => rw [ee] at p; exact p
    · cases h
theorem t_frz (i : Nat) {ss : Ss} (hr : SndSs T ss) : SndSs T (.cons (.frz i) ss) := by
  intro sc X E H0 ok x h
  unfold chkSs at h
  have hb := hr H0 ok x h
  refine ⟨fun pins s σ H D I ⟨e, st, p⟩ => ?_⟩
  rw [evSs, evS] at p
  cases ei : e[i]? with
  | none => rw [ei] at p; exact p.elim
  | some so =>
    rw [ei] at p
    cases so with
    | none => exact p.elim
    | some sl =>
      have hat := st.at_ i sl ei
      cases sl with
      | v d => exact p.elim
      | l ds =>
        obtain ⟨a, xs, e1, h0, h1, r1⟩ := hat
        obtain ⟨od, J⟩ := I.lock h1 True.intro
        have p : PostF X.K E H0 H (evSs T.Γ ss (e.set i (some (.v (.list ds))))) D := p
        have kf : KeepF H (upd H a (.frz od (.lst xs))) := fun b u q f => by
          rw [upd_ne]
          · exact q
          · rintro rfl
            rw [h1] at q
            cases q
            exact f
        refine hb.run pins s σ _ D J ⟨_, st.change ei rfl e1 h0 h1 (fun z => z) (s' := .v (.list ds)) ⟨_, rfl, .lst (.inl ⟨od, upd_same⟩) (r1.mono kf)⟩, p.mono kf⟩
      | d t kvs =>
        have p : PostF X.K E H0 H (evSs T.Γ ss (e.set i (some (.v (.dict kvs))))) D := p
        cases t with
        | false =>
          obtain ⟨a, ks, ds, e1, h0, h1, r1, rfl⟩ := hat
          obtain ⟨od, J⟩ := I.lock h1 True.intro
          have kf : KeepF H (upd H a (.frz od (.dK ks))) := fun b u q f => by
            rw [upd_ne]
            · exact q
            · rintro rfl
              rw [h1] at q
              cases q
              exact f
          refine hb.run pins s σ _ D J ⟨_, st.change ei rfl e1 h0 h1 (fun z => z) (s' := .v (.dict _)) ⟨_, rfl, .dK upd_same (r1.mono kf)⟩, p.mono kf⟩
        | true =>
          obtain ⟨a, ks, ds, e1, h0, h1, r1, rfl⟩ := hat
          obtain ⟨od, J⟩ := I.lock h1 True.intro
          have kf : KeepF H (upd H a (.frz od (.dT ks))) := fun b u q f => by
            rw [upd_ne]
            · exact q
            · rintro rfl
              rw [h1] at q
              cases q
              exact f
          refine hb.run pins s σ _ D J ⟨_, st.change ei rfl e1 h0 h1 (fun z => z) (s' := .v (.dict _)) ⟨_, rfl, .dT upd_same (r1.mono kf)⟩, p.mono kf⟩
/-! small statements -/
theorem t_ret {c : C} (hc : Snd T c) : SndS T (.ret c) := by
  intro sc X E H0 ok x h
  unfold chkS at h
  split at h
  · refine ps_imp (ps_ret (hc.1 H0 ok.cx false _ h)) fun D σ H ⟨e, st, p⟩ => ?_
    rw [evS] at p
    exact ⟨e, st, (p.bind st.same).imp fun d H1 s1 p1 v r => p1 v H1 (st.same.trans s1) r⟩
  · cases h
theorem t_retN : SndS T .retN := by
  intro sc X E H0 ok x h
  unfold chkS at h
  split at h
  · refine ps_imp ps_retN fun D σ H ⟨e, st, p⟩ => ?_
    rw [evS] at p
    exact p .non H st.same .non
  · cases h
theorem t_ife {c : C} {t f : Ss} (hc : Snd T c) (ht : SndSs T t) (hf : SndSs T f) : SndS T (.ife c t f) := by
  intro sc X E H0 ok x h
  unfold chkS at h
  split at h
  · simp only [Bool.and_eq_true] at h
    obtain ⟨⟨⟨h1, h2⟩, h3⟩, h4⟩ := h
    refine ps_imp (ps_if (hc.2 H0 ok.cx true _ h1 h2).1 (ht H0 ok _ h3) (hf H0 ok _ h4)) fun D σ H ⟨e, st, p⟩ => ?_
    rw [evS] at p
    refine ⟨e, st, ?_⟩
    have p : PostF X.K E H0 H (((evE T.Γ c e).bind asB).bind fun b => if b = true then evSs T.Γ t e else evSs T.Γ f e) D := by
      cases ec : evE T.Γ c e with
      | ok d => rw [ec] at p; exact p
      | exc k => rw [ec] at p; exact p
      | no => rw [ec] at p; exact p
    refine (p.bind st.same).imp fun b H1 s1 p1 => ?_
    cases b with
    | true => exact ⟨e, st.mono s1, p1⟩
    | false => exact ⟨e, st.mono s1, p1⟩
  · cases h
theorem t_rse (k : Str) : SndS T (.rse k) := by
  intro sc X E H0 ok x h
  unfold chkS at h
  split at h
  · simp only [Bool.and_eq_true, decide_eq_true_eq] at h
    obtain ⟨⟨e1, e2⟩, e3⟩ := h
    subst e1
    obtain ⟨g1, g2, g3⟩ := gl_ok ok.cx e2
    obtain ⟨x1, x2, x3, x4, x5⟩ := ok.cx.tab.exn _ e3
    refine ps_imp (ps_raise ok.cx.calm ok.takes (pmk_own PySem.F.excBase_ValueError x1 x2 x3 (raises_own x4 x5) g1 g3)) fun D σ H ⟨e, st, p⟩ => ?_
    rw [evS] at p
    exact p H st.same
  · cases h
theorem sw_nc {x : Expr} (h : notComp x = true) (t : Option Expr) (l : Nat) (env : Env) : swapsWith x t l env = pure false := by
  cases x <;> first
    | rfl
    | (simp [notComp] at h; done)
theorem t_drop {c : C} (hc : Snd T c) : SndS T (.drop c) := by
  intro sc X E H0 ok x h
  unfold chkS at h
  split at h
  · split at h
    · refine ps_imp ps_doc fun D σ H ⟨e, st, p⟩ => ?_
      rw [evS, evE] at p
      exact p σ H st (KeepF.refl H)
    · cases h
  · rw [Bool.and_eq_true] at h
    refine ps_imp (ps_expr (hc.1 H0 ok.cx true _ h.1) (sw_nc h.2 _ _ _)) fun D σ H ⟨e, st, p⟩ => ?_
    rw [evS] at p
    exact ⟨e, st, (p.bind st.same).imp fun d H1 s1 p1 v r => p1 σ H1 (st.mono s1) (KeepF.refl H1)⟩
  · cases h
/-! loops -/
theorem bindMany_ne : ∀ (is : List Nat) (ds : List PyData) (e : Ev) (k : Str), bindMany is ds e ≠ .exc k
  | [], [], _, _ => fun h => by cases h
  | i :: is, d :: ds, e, k => bindMany_ne is ds (setV e i d) k
  | [], _ :: _, _, _ => fun h => by cases h
  | _ :: _, [], _, _ => fun h => by cases h
theorem bindT_ne (tg : Tg) (d : PyData) (e : Ev) (k : Str) : bindT tg d e ≠ .exc k := by
  cases tg with
  | one i => intro h; cases d <;> cases h
  | tup is => cases d <;> first
    | exact bindMany_ne _ _ _ _
    | (intro h; cases h; done)
theorem t_for {tg : Tg} {it : It'} {body : Ss} (hi : SndI T it) (hb : SndSs T body) : SndS T (.for_ tg it body) := by
  intro sc X E H0 ok x h
  unfold chkS at h
  split at h
  · simp only [Bool.and_eq_true] at h
    obtain ⟨⟨⟨h1, h2⟩, h3⟩, h4⟩ := h
    refine ps_imp (ps_for ok.own ok.cx.calm (hi H0 ok.cx _ _ h2) (pg_ok ok.cx h1) (hb H0 ok _ h4) (fold_ns h3 _)) fun D σ H ⟨e, st, p⟩ => ?_
    rw [evS] at p
    refine ⟨e, st, (p.bind st.same).imp fun xs H1 s1 p1 J itok => ?_⟩
    refine ⟨fun i m σ' H' => m = xs.length - i ∧ i ≤ xs.length ∧ KeepF H1 H' ∧ ∃ e', StOk X.K H0 e' σ' H' ∧ PostF X.K E H0 H' (forR (fun x e => (bindT tg x e).bind fun e' => evSs T.Γ body e') (xs.drop i) e') D,
      ⟨xs.length, by simp, Nat.zero_le _, KeepF.refl H1, e, st.mono s1, by simpa using p1⟩, ?_⟩
    rintro i m σ' H' ⟨rfl, hi', kf, e', st', p'⟩
    have hit := itok i H' kf
    by_cases hlt : i < xs.length
    · have e1 : xs[i]? = some xs[i] := List.getElem?_eq_getElem hlt
      rw [e1] at hit
      obtain ⟨go, yl⟩ := hit
      refine .inr ⟨go, fun σ' H' => KeepF H1 H' ∧ ∃ e', StOk X.K H0 e' σ' H' ∧ PostF X.K E H0 H' (forR (fun x e => (bindT tg x e).bind fun e' => evSs T.Γ body e') (xs.drop (i + 1)) e') D, fun σ2 H2 q => ⟨xs.length - (i + 1), by omega, rfl, hlt, q⟩, fun x H2 y => ?_⟩
      obtain ⟨s2, rx⟩ := yl x H2 y
      rw [drop_at e1] at p'
      unfold forR at p'
      cases eb : bindT tg xs[i] e' with
      | no => rw [eb] at p'; exact p'.elim
      | exc k => exact absurd eb (bindT_ne _ _ _ _)
      | ok e2 =>
        rw [eb] at p'
        refine g_ok (st'.mono s2) rx eb fun σ2 st2 _ => ⟨e2, st2, ?_⟩
        have p' : PostF X.K E H0 H' ((evSs T.Γ body e2).bind fun r => match r with
          | .nx e' => forR (fun x e => (bindT tg x e).bind fun e' => evSs T.Γ body e') (xs.drop (i + 1)) e'
          | .rt d => .ok (.rt d)) D := p'
        cases ee : evSs T.Γ body e2 with
        | ok f =>
          rw [ee] at p'
          cases f with
          | nx e3 => exact fun σ3 H3 st3 k3 => ⟨(kf.trans (.of s2)).trans k3, e3, st3, PostF.mono (r := forR _ (xs.drop (i + 1)) e3) p' ((KeepF.of s2).trans k3)⟩
          | rt d => exact p'
        | exc k => rw [ee] at p'; exact p'
        | no => rw [ee] at p'; exact p'
    · have e1 : i = xs.length := by omega
      subst e1
      rw [List.getElem?_eq_none (Nat.le_refl _)] at hit
      rw [List.drop_length] at p'
      exact .inl ⟨hit rfl, p' σ' H' st' (KeepF.refl H')⟩
  · cases h
theorem t_whl (n : Nat) {c : C} {body : Ss} (hc : Snd T c) (hb : SndSs T body) : SndS T (.whl n c body) := by
  intro sc X E H0 ok x h
  unfold chkS at h
  split at h
  · simp only [Bool.and_eq_true] at h
    obtain ⟨⟨h1, h2⟩, h4⟩ := h
    refine ps_imp (ps_while ok.own (hc.2 H0 ok.cx true _ h1 h2).1 (hb H0 ok _ h4)) fun D σ H ⟨e, st, p⟩ => ?_
    rw [evS] at p
    refine ⟨fun m σ' H' => ∃ e', StOk X.K H0 e' σ' H' ∧ PostF X.K E H0 H' (whlR (fun e => (evE T.Γ c e).bind asB) (fun e => evSs T.Γ body e) m e') D, ⟨n, e, st, p⟩, ?_⟩
    rintro m σ' H' ⟨e', st', p'⟩
    cases m with
    | zero => exact p'.elim
    | succ m =>
      unfold whlR at p'
      refine ⟨e', st', (p'.bind st'.same).imp fun b H1 s1 p1 => ?_⟩
      cases b with
      | false => exact p1 σ' H1 (st'.mono s1) (KeepF.refl H1)
      | true =>
        rw [if_pos rfl] at p1 ⊢
        refine ⟨fun σ2 H2 => ∃ e', StOk X.K H0 e' σ2 H2 ∧ PostF X.K E H0 H2 (whlR (fun e => (evE T.Γ c e).bind asB) (fun e => evSs T.Γ body e) m e') D, fun σ2 H2 q => ⟨m, Nat.lt_succ_self m, q⟩, e', st'.mono s1, ?_⟩
        cases ee : evSs T.Γ body e' with
        | ok f =>
          rw [ee] at p1
          cases f with
          | nx e3 => exact fun σ3 H3 st3 k3 => ⟨e3, st3, PostF.mono (r := whlR _ _ m e3) p1 k3⟩
          | rt d => exact p1
        | exc k => rw [ee] at p1; exact p1
        | no => rw [ee] at p1; exact p1
  · cases h
end
end Cg

set_option maxHeartbeats 1000000
namespace Cg
open PySem PySem.Spec PyProof.Rows L2
theorem sw_cell {elt : Expr} {gs : List Comprehension} {scope : Scope} {p py : Pos} {y : Str} {l : Nat} {env : Env} (hy : env.scope.names.lookup y = some .cell) : swapsWith (.ListComp elt gs scope p) (some (.Name y py)) l env = pure false := by
  have ky : env.kindOf y = some .cell := hy
  unfold swapsWith
  simp only [ky]
  have e : (some NameKind.cell == some NameKind.local) = false := by decide
  simp only [e, Bool.and_false, Bool.false_and]
section
variable {T : Tx}
/-- the rule for a new list that may still change -/
def SndU (T : Tx) (c : C) : Prop := ∀ {sc : Scope} {fc : Str → Bool} {X : Cx} {E : XK} (H0 : Hp), CxOk T sc fc X E → ∀ x : Expr, chk T c sc false x = true → PE X x (rdU T.Γ X.K E H0 c)
theorem sndU : ∀ c : C, ownC c = true → SndU T c := by
  intro c hc sc fc X E H0 ok x h
  cases c with
  | lst es => exact u_lst (sndA es) H0 ok h
  | lc elt tg it ws => exact u_lc (sndE elt) (sndI it) H0 ok h
  | lcf elt tg it c ws => exact u_lcf (sndE elt) (sndI it) (sndE c) H0 ok h
  | lc2 elt tg it tg' it' ws ws' => exact u_lc2 (sndE elt) (sndI it) (sndI it') H0 ok h
  | _ => cases hc
theorem ps_setU {i : Nat} {y : Str} {py spos : Pos} {x : Expr} {sc : Scope} {X : Cx} {E : XK} {H0 : Hp} (ok : SxOk T sc X E) : ∀ {c : C}, isLC c = true → chk T c sc false x = true → X.N[i]? = some y → X.env.scope.names.lookup y = some .local →
    swapsWith x (some (.Name y py)) spos.line X.env = pure true → PS X (.Assign [.Name y py] x spos) (tAsg (rdU T.Γ X.K E H0 c) (gName i))
  | .lc elt tg it ws, _, h, hy, hyl, hsw => by
    refine ps_imp (ps_setC (H0 := H0) ok.cx (sndE elt) (sndI it) h hy hyl hsw) fun D σ H z => ?_
    unfold chk at h
    split at h
    · simp only [Bool.and_eq_true] at h
      exact u_lc_key h.1.1.2 z
    · cases h
  | .lcf elt tg it c ws, _, h, hy, hyl, hsw => by
    refine ps_imp (ps_setF (H0 := H0) ok.cx (sndE elt) (sndI it) (sndE c) h hy hyl hsw) fun D σ H z => ?_
    unfold chk at h
    split at h
    · simp only [Bool.and_eq_true] at h
      exact u_lcf_key h.1.1.1.1.2 z
    · cases h
  | .lc2 elt tg it tg' it' ws ws', _, h, hy, hyl, hsw => ps_setC2 (H0 := H0) ok.cx (sndE elt) (sndI it) (sndI it') h hy hyl hsw
theorem lc_own {c : C} (h : isLC c = true) : ownC c = true := by cases c <;> first | rfl | cases h
/-- name = a new list, not locked -/
theorem ps_asgU {i : Nat} {y : Str} {py spos : Pos} {x : Expr} {sc : Scope} {X : Cx} {E : XK} {H0 : Hp} (ok : SxOk T sc X E) {c : C} (ho : ownC c = true) (h : chk T c sc false x = true) (hs : stC T sc fcT i y = true) (ha : asgOk sc y py c x = true) :
    PS X (.Assign [.Name y py] x spos) (tAsg (rdU T.Γ X.K E H0 c) (gName i)) := by
  obtain ⟨h1, h2, h3⟩ := st_ok ok.cx hs
  have he := sndU c ho H0 ok.cx x h
  unfold asgOk at ha
  split at ha
  · rename_i elt gs scope p
    rw [Bool.and_eq_true] at ha
    obtain ⟨a1, a2⟩ := ha
    split at a2
    · rename_i hl
      simp only [Bool.and_eq_true, Bool.not_eq_true'] at a2
      have hl2 : X.env.scope.names.lookup y = some .local := by rw [ok.cx.hsc]; exact hl
      exact ps_setU ok a1 h h1 hl2 (sw_true ok.kd hl2 a2.1 a2.2)
    · rename_i hl
      exact ps_set (cx_nd ok.cx) h1 h2 he (sw_cell (by rw [ok.cx.hsc]; exact hl)) h3
    · cases a2
  · cases ha
  · cases ha
  · rename_i n1 n2 n3
    refine ps_set (cx_nd ok.cx) h1 h2 he (sw_nc ?_ _ _ _) h3
    cases x <;> first
      | rfl
      | exact absurd rfl (n1 _ _ _ _)
      | exact absurd rfl (n2 _ _ _ _)
      | exact absurd rfl (n3 _ _ _ _ _)
theorem t_own (i : Nat) {c : C} : SndS T (.own i c) := by
  intro sc X E H0 ok x h
  unfold chkS at h
  split at h
  · simp only [Bool.and_eq_true] at h
    obtain ⟨⟨⟨h1, h2⟩, h3⟩, h4⟩ := h
    refine ps_imp (ps_asgU (H0 := H0) ok h4 h2 h1 h3) fun D σ H ⟨e, st, p⟩ => ?_
    rw [evS] at p
    refine ⟨e, st, (p.bind st.same).imp fun d H1 s1 p1 => ?_⟩
    cases d with
    | list ds =>
      refine ⟨ds, rfl, fun L H' acc s2 hD h1 r => p1 (σ.set i (some (.ref L))) H' (((st.mono s1).mono s2).setO i (s := .l ds) ⟨L, acc, rfl, ?_, h1, r⟩ ?_) (.of s2)⟩
      · cases z : H0 L with
        | none => rfl
        | some o => have := s1 _ _ (st.same _ _ z); rw [hD] at this; cases this
      · exact (st.mono s1).own_ne hD
    | _ => exact p1.elim
  · cases h
theorem t_asg (i : Nat) {c : C} (hc : Snd T c) : SndS T (.asg i c) := by
  intro sc X E H0 ok x h
  unfold chkS at h
  split at h
  · rename_i x' px e' pos
    simp only [Bool.and_eq_true] at h
    obtain ⟨⟨h1, h2⟩, h3⟩ := h
    cases hl : isLC c with
    | true =>
      refine ps_imp (ps_lkn (ps_asgU (H0 := H0) ok (lc_own hl) h2 h1 h3)) fun D σ H ⟨e, st, p⟩ => ?_
      rw [evS] at p
      refine ⟨e, st, (p.bind st.same).imp' fun d H1 ee s1 p1 => ?_⟩
      have hd : ∃ ds, d = .list ds := by
        cases c with
        | lc elt tg it ws =>
          rw [evE] at ee
          obtain ⟨xs, _, ee⟩ := bind_eq ee
          obtain ⟨ys, _, ee⟩ := bind_eq ee
          exact ⟨ys, (listD_ok ee).1⟩
        | lcf elt tg it c ws =>
          rw [evE] at ee
          obtain ⟨xs, _, ee⟩ := bind_eq ee
          obtain ⟨ys, _, ee⟩ := bind_eq ee
          exact ⟨ys, (listD_ok ee).1⟩
        | lc2 elt tg it tg' it' ws ws' =>
          rw [evE] at ee
          obtain ⟨xs, _, ee⟩ := bind_eq ee
          obtain ⟨ys, _, ee⟩ := bind_eq ee
          exact ⟨ys, (listD_ok ee).1⟩
        | _ => cases hl
      obtain ⟨ds, rfl⟩ := hd
      refine ⟨ds, rfl, fun L H' acc s2 hD h1 r => .inr ⟨L, _, h1, True.intro, fun od => ?_⟩⟩
      have kf : KeepF H' (upd H' L (.frz od (.lst acc))) := fun b u q f => by
        rw [upd_ne]
        · exact q
        · rintro rfl
          rw [h1] at q
          cases q
          exact f
      have s3 : Same H1 (upd H' L (.frz od (.lst acc))) := fun b u q => by
        rw [upd_ne (fun z => by rw [z, hD] at q; cases q)]
        exact s2 b u q
      exact p1 _ _ (((st.mono s1).mono s3).setV i (d := .list ds) (.lst (.inl ⟨od, upd_same⟩) (r.mono kf))) (.of s3)
    | false =>
      obtain ⟨k1, k2, k3⟩ := st_ok ok.cx h1
      have hn : notComp e' = true := by
        unfold asgOk at h3
        cases e' <;> first
          | rfl
          | (simp [hl] at h3; done)
      refine ps_imp (ps_set (cx_nd ok.cx) k1 k2 (hc.1 H0 ok.cx false _ h2) (sw_nc hn _ _ _) k3) fun D σ H ⟨e, st, p⟩ => ?_
      rw [evS] at p
      exact ⟨e, st, (p.bind st.same).imp fun d H1 s1 p1 v r => p1 _ H1 ((st.mono s1).setV i r) (KeepF.refl H1)⟩
  · cases h
theorem swapped_nt {t e : Expr} (h : isTupE e = false) (env : Env) : swappedStores [t] e env = pure none := by
  cases e <;> first
    | (cases t <;> rfl)
    | (simp [isTupE] at h; done)
theorem t_asgT (is : List Nat) {c : C} (hc : Snd T c) : SndS T (.asgT is c) := by
  intro sc X E H0 ok x h
  unfold chkS at h
  split at h
  · rename_i ts tk tp e' pos
    simp only [Bool.and_eq_true, Bool.not_eq_true'] at h
    obtain ⟨⟨⟨h1, h2⟩, h3⟩, h4⟩ := h
    have hg : PG X (.Tuple ts tk tp) (gOf X.K (.tup is)) := pg_ok (T := T) (tg := .tup is) ok.cx (by unfold tgC; exact h1)
    refine ps_imp (ps_asg (hc.1 H0 ok.cx false _ h2) hg (by unfold swapsWithSole; exact sw_nc h3 _ _ _) (swapped_nt h4 _)) fun D σ H ⟨e, st, p⟩ => ?_
    rw [evS] at p
    refine ⟨e, st, (p.bind st.same).imp fun d H1 s1 p1 v r => ?_⟩
    cases eb : bindT (.tup is) d e with
    | no => rw [eb] at p1; exact p1.elim
    | exc k => exact absurd eb (bindT_ne _ _ _ _)
    | ok e2 =>
      rw [eb] at p1
      exact g_ok (st.mono s1) r eb fun σ2 st2 _ => p1 σ2 H1 st2 (KeepF.refl H1)
  · cases h
theorem few_ok {cpos : Pos} {e : Expr} {env : Env} (h : notStar e = true) : ((backTo cpos (starEach [e] env)).all (fun x => !x.1) && (backToKw cpos (keywordEach [] env)).all (fun x => x.1.isSome)
      && decide (([e] : List Expr).length + ([] : List Keyword).length + (if ([] : List Keyword).isEmpty then 0 else 1) < 30)) = true := by
  rw [starEach_ns h]
  rfl
theorem t_app (i : Nat) {c : C} (hc : Snd T c) : SndS T (.app i c) := by
  intro sc X E H0 ok x h
  unfold chkS at h
  split at h
  · simp only [Bool.and_eq_true, decide_eq_true_eq] at h
    obtain ⟨⟨⟨⟨e1, h1⟩, h2⟩, h3⟩, h4⟩ := h
    subst e1
    obtain ⟨k1, k2, k3, k4⟩ := nm_ok ok.cx h1
    refine ps_imp (ps_expr (pe_bm PySem.F.plainAttrs_list PySem.F.slot_list_append PySem.F.type_list_append mt_append (pe_var k1 k2 k3 k4) (pa_cons (hc.1 H0 ok.cx false _ h2) pa_nil (starEach_ns h3 _ _)) rfl (few_ok h3) h4 (starEach_ns h3 _ _))) fun D σ H ⟨e, st, p⟩ => ?_
    rw [evS] at p
    cases ei : e[i]? with
    | none => rw [ei] at p; exact p.elim
    | some so =>
      rw [ei] at p
      cases so with
      | none => exact p.elim
      | some sl =>
        cases sl with
        | v d => exact p.elim
        | d t kvs => exact p.elim
        | l ds =>
          have p : PostF X.K E H0 H ((evE T.Γ c e).bind fun d => if ds.length < sizeLine then Res.ok (Fl.nx (e.set i (some (Sl.l (ds ++ [d]))))) else .no) D := p
          obtain ⟨a, xs, e1, h0, hH, r1⟩ := st.at_ i _ ei
          refine ⟨.ref a, getD_some e1, .inl ⟨rfl, xs, SqL.of hH⟩, e, st, (p.bind st.same).imp fun d H1 s1 p1 v r => ?_⟩
          split at p1
          · rename_i hz
            have hl := r1.length
            refine ⟨a, xs, v, rfl, rfl, s1 _ _ hH, by omega, ?_⟩
            have kf : KeepF H1 (upd H1 a (.lst (xs ++ [v]))) := fun b u q f => by
              rw [upd_ne]
              · exact q
              · rintro rfl
                rw [s1 _ _ hH] at q
                cases q
                exact f
            exact p1 σ _ ((st.mono s1).change ei rfl e1 h0 (s1 _ _ hH) (fun z => z) (s' := .l (ds ++ [d])) ⟨a, _, rfl, h0, upd_same, ((r1.mono (.of s1)).append (.cons r .nil)).mono kf⟩) kf
          · exact p1.elim
  · cases h
theorem t_ext (i : Nat) {c : C} : SndS T (.ext i c) := by
  intro sc X E H0 ok x h
  unfold chkS at h
  split at h
  · simp only [Bool.and_eq_true, decide_eq_true_eq] at h
    obtain ⟨⟨⟨⟨⟨e1, h1⟩, h2⟩, h3⟩, h4⟩, h5⟩ := h
    subst e1
    obtain ⟨k1, k2, k3, k4⟩ := nm_ok ok.cx h1
    refine ps_imp (ps_expr (pe_bm PySem.F.plainAttrs_list PySem.F.slot_list_extend PySem.F.type_list_extend mt_extend (pe_var k1 k2 k3 k4) (pa_cons (sndU c h5 H0 ok.cx _ h2) pa_nil (starEach_ns h3 _ _)) rfl (few_ok h3) h4 (starEach_ns h3 _ _))) fun D σ H ⟨e, st, p⟩ => ?_
    rw [evS] at p
    cases ei : e[i]? with
    | none => rw [ei] at p; exact p.elim
    | some so =>
      rw [ei] at p
      cases so with
      | none => exact p.elim
      | some sl =>
        cases sl with
        | v d => exact p.elim
        | d t kvs => exact p.elim
        | l ds =>
          have p : PostF X.K E H0 H ((evE T.Γ c e).bind fun d => extD ds d (fun ys => .ok (.nx (e.set i (some (.l ys)))))) D := p
          obtain ⟨a, xs, e1, h0, hH, r1⟩ := st.at_ i _ ei
          refine ⟨.ref a, getD_some e1, .inl ⟨rfl, xs, SqL.of hH⟩, e, st, (p.bind st.same).imp fun d H1 s1 p1 => ?_⟩
          cases d with
          | list ys =>
            refine ⟨ys, rfl, fun L H' acc s2 hD hL r => ?_⟩
            unfold extD at p1
            simp only at p1
            split at p1
            · rename_i hz
              have hl := r1.length
              have hl2 := r.length
              have hH2 := s2 _ _ (s1 _ _ hH)
              refine ⟨a, L, xs, acc, rfl, rfl, hH2, hL, by omega, ?_⟩
              have kf : KeepF H' (upd H' a (.lst (xs ++ acc))) := fun b u q f => by
                rw [upd_ne]
                · exact q
                · rintro rfl
                  rw [hH2] at q
                  cases q
                  exact f
              exact p1 σ _ (((st.mono s1).mono s2).change ei rfl e1 h0 hH2 (fun z => z) (s' := .l (ds ++ ys)) ⟨a, _, rfl, h0, upd_same, (((r1.mono (.of s1)).mono (.of s2)).append r).mono kf⟩) ((KeepF.of s2).trans kf)
            · exact p1.elim
          | _ => exact p1.elim
  · cases h
end
end Cg

set_option maxHeartbeats 1000000
namespace Cg
open PySem PySem.Spec PyProof.Rows L2
/-! ### 20. a, b = x, y -/
/-- values for several slots: shared, or own at addresses that the heap Hs does not know -/
inductive PvAll (K : PySem.W.Frag) (H2 : Hp) : Hp → List V → List Sl → Prop
  | nil {Hs : Hp} : PvAll K H2 Hs [] []
  | sh {Hs Ht : Hp} {v : V} {d : PyData} {vs : List V} {ss : List Sl} : Rp K H2 v d → Same Hs Ht → PvAll K H2 Ht vs ss → PvAll K H2 Hs (v :: vs) (.v d :: ss)
  | ow {Hs Ht : Hp} {a : Addr} {xs : List V} {ds : List PyData} {vs : List V} {ss : List Sl} : Hs a = none → Same Hs Ht → (∃ o, Ht a = some o) → H2 a = some (.lst xs) → RpAll K H2 xs ds → PvAll K H2 Ht vs ss → PvAll K H2 Hs (.ref a :: vs) (.l ds :: ss)
  | od {Hs Ht : Hp} {a : Addr} {k : List Key} {w : V} {d : PyData} {vs : List V} {ss : List Sl} : Hs a = none → Same Hs Ht → (∃ o, Ht a = some o) → H2 a = some (.dT [(k, w)]) → Rp K H2 w d → PvAll K H2 Ht vs ss → PvAll K H2 Hs (.ref a :: vs) (.d true [(kTD k, d)] :: ss)
def setσ : List Nat → List V → L2.St → L2.St
  | i :: is, v :: vs, σ => setσ is vs (σ.set i (some v))
  | _, _, σ => σ
/-- every own slot's address is known to Hs -/
def Kn (Hs : Hp) (e : Ev) (σ : L2.St) : Prop := ∀ (j : Nat) (t : Sl) (a : Addr), e[j]? = some (some t) → isOwn t = true → (σ[j]?).getD none = some (.ref a) → ∃ o, Hs a = some o
theorem PvAll.length {K : PySem.W.Frag} {H2 : Hp} : ∀ {Hs : Hp} {vs : List V} {ss : List Sl}, PvAll K H2 Hs vs ss → vs.length = ss.length
  | _, _, _, .nil => rfl
  | _, _, _, .sh _ _ r => by rw [List.length_cons, List.length_cons, PvAll.length r]
  | _, _, _, .ow _ _ _ _ _ r => by rw [List.length_cons, List.length_cons, PvAll.length r]
  | _, _, _, .od _ _ _ _ _ r => by rw [List.length_cons, List.length_cons, PvAll.length r]
theorem PvAll.mono {K : PySem.W.Frag} {H2 H3 : Hp} (s : Same H2 H3) : ∀ {Hs : Hp} {vs : List V} {ss : List Sl}, PvAll K H2 Hs vs ss → PvAll K H3 Hs vs ss
  | _, _, _, .nil => .nil
  | _, _, _, .sh h a r => .sh (h.mono (.of s)) a (PvAll.mono s r)
  | _, _, _, .ow a b c d e r => .ow a b c (s _ _ d) (e.mono (.of s)) (PvAll.mono s r)
  | _, _, _, .od a b c d e r => .od a b c (s _ _ d) (e.mono (.of s)) (PvAll.mono s r)
section
variable {K : PySem.W.Frag} {H0 H2 : Hp}
theorem setMany_ok : ∀ {Hs : Hp} {is : List Nat} {vs : List V} {ss : List Sl} {e e' : Ev} {σ : L2.St}, PvAll K H2 Hs vs ss → Same H0 Hs → Kn Hs e σ → StOk K H0 e σ H2 → setMany is ss e = .ok e' → StOk K H0 e' (setσ is vs σ) H2
  | Hs, [], _, _, e, e', σ, .nil, _, _, st, h => by cases h; exact st
  | Hs, i :: is, _, _, e, e', σ, .sh (v := v) (vs := vr) (d := d) hr ha r, s0, kn, st, h => by
    have h : setMany is _ (setV e i d) = .ok e' := h
    show StOk K H0 e' (setσ is vr (σ.set i (some v))) H2
    refine setMany_ok r (s0.trans ha) (fun j t a q o g => ?_) (st.setV i hr) h
    rcases set_at q with ⟨rfl, e1, hl⟩ | ⟨hne, q'⟩
    · cases e1; cases o
    · rw [List.getElem?_set_ne (Ne.symm hne)] at g
      obtain ⟨ob, ho⟩ := kn j t a q' o g
      exact ⟨ob, ha _ _ ho⟩
  | Hs, i :: is, _, _, e, e', σ, .ow (a := a) (xs := xs) (vs := vr) (ds := ds) hn ha hk h1 h2 r, s0, kn, st, h => by
    have h : setMany is _ (e.set i (some (.l ds))) = .ok e' := h
    show StOk K H0 e' (setσ is vr (σ.set i (some (.ref a)))) H2
    have h0 : H0 a = none := by
      cases z : H0 a with
      | none => rfl
      | some o => have := s0 _ _ z; rw [hn] at this; cases this
    have apart : ∀ (j : Nat) (t : Sl), e[j]? = some (some t) → isOwn t = true → (σ[j]?).getD none ≠ some (.ref a) := fun j t q o g => by
      obtain ⟨ob, ho⟩ := kn j t a q o g
      rw [hn] at ho
      cases ho
    refine setMany_ok r (s0.trans ha) (fun j t b q o g => ?_) (st.setO i (s := .l ds) ⟨a, xs, rfl, h0, h1, h2⟩ apart) h
    rcases set_at q with ⟨rfl, e1, hl⟩ | ⟨hne, q'⟩
    · rw [set_got (by rw [← st.len]; exact hl), if_pos rfl] at g
      cases g
      exact hk
    · rw [List.getElem?_set_ne (Ne.symm hne)] at g
      obtain ⟨ob, ho⟩ := kn j t b q' o g
      exact ⟨ob, ha _ _ ho⟩
  | Hs, i :: is, _, _, e, e', σ, .od (a := a) (k := k) (w := w) (d := d) (vs := vr) hn ha hk h1 h2 r, s0, kn, st, h => by
    have h : setMany is _ (e.set i (some (.d true [(kTD k, d)]))) = .ok e' := h
    show StOk K H0 e' (setσ is vr (σ.set i (some (.ref a)))) H2
    have h0 : H0 a = none := by
      cases z : H0 a with
      | none => rfl
      | some o => have := s0 _ _ z; rw [hn] at this; cases this
    have apart : ∀ (j : Nat) (t : Sl), e[j]? = some (some t) → isOwn t = true → (σ[j]?).getD none ≠ some (.ref a) := fun j t q o g => by
      obtain ⟨ob, ho⟩ := kn j t a q o g
      rw [hn] at ho
      cases ho
    refine setMany_ok r (s0.trans ha) (fun j t b q o g => ?_) (st.setO i (s := .d true [(kTD k, d)]) ⟨a, [(k, w)], [d], rfl, h0, h1, .cons h2 .nil, rfl⟩ apart) h
    rcases set_at q with ⟨rfl, e1, hl⟩ | ⟨hne, q'⟩
    · rw [set_got (by rw [← st.len]; exact hl), if_pos rfl] at g
      cases g
      exact hk
    · rw [List.getElem?_set_ne (Ne.symm hne)] at g
      obtain ⟨ob, ho⟩ := kn j t b q' o g
      exact ⟨ob, ha _ _ ho⟩
  | _, [], _, _, _, _, _, .sh _ _ _, _, _, _, h => by cases h
  | _, [], _, _, _, _, _, .ow _ _ _ _ _ _, _, _, _, h => by cases h
  | _, [], _, _, _, _, _, .od _ _ _ _ _ _, _, _, _, h => by cases h
  | _, _ :: _, _, _, _, _, _, .nil, _, _, _, h => by cases h
theorem kn_of {e : Ev} {σ : L2.St} {H : Hp} (st : StOk K H0 e σ H) : Kn H e σ := fun j t a q o g => by
  cases z : H a with
  | some ob => exact ⟨ob, rfl⟩
  | none => exact absurd g (st.own_ne z j t q o)
theorem gs_set : ∀ {is : List Nat} {vs : List V} {σ : L2.St} {H : Hp} {R : L2.St → Hp → Prop}, vs.length = is.length → R (setσ is vs σ) H → gsOf is vs σ H R
  | [], [], _, _, _, _, q => ⟨rfl, q⟩
  | i :: is, v :: vs, σ, H, R, h, q => ⟨v, vs, rfl, gs_set (is := is) (by simpa using h) q⟩
  | [], _ :: _, _, _, _, h, _ => by simp at h
  | _ :: _, [], _, _, _, h, _ => by simp at h
theorem setMany_len : ∀ {is : List Nat} {ss : List Sl} {e e' : Ev}, setMany is ss e = .ok e' → ss.length = is.length
  | [], [], _, _, _ => rfl
  | i :: is, s :: ss, e, e', h => by rw [List.length_cons, List.length_cons, setMany_len (is := is) (ss := ss) h]
  | [], _ :: _, _, _, h => by cases h
  | _ :: _, [], _, _, h => by cases h
end
theorem setMany_ne : ∀ (is : List Nat) (ss : List Sl) (e : Ev) (k : Str), setMany is ss e ≠ .exc k
  | [], [], _, _ => fun h => by cases h
  | i :: is, s :: ss, e, k => setMany_ne is ss (e.set i (some s)) k
  | [], _ :: _, _, _ => fun h => by cases h
  | _ :: _, [], _, _ => fun h => by cases h
def sw0 (env : Env) (ts vs : List Expr) : Sem (Option (List Str)) :=
  if (!(ts.length == 2 || ts.length == 3) || vs.length != ts.length || env.blockKind != .function) = true then pure none else
  if (vs.any swStar) = true then pure none else
  if ((ts.filterMap (swName env.kindOf (swLine ts))).length != ts.length || (ts.filterMap (swName env.kindOf (swLine ts))).eraseDups.length != (ts.filterMap (swName env.kindOf (swLine ts))).length) = true then pure none else
  if (vs.all (foldedForSure 8)) = true then pure none else
  if (vs.all (constantsAlone 8)) = true then (do unsupported "assign.tuple-of-constant-expressions:order-of-the-stores"; pure (some (ts.filterMap (swName env.kindOf (swLine ts))))) else pure (some (ts.filterMap (swName env.kindOf (swLine ts))))
theorem sw0_eq (ts vs : List Expr) (k k2 : Nat) (p p2 : Pos) (env : Env) : swappedStores [.Tuple ts k p] (.Tuple vs k2 p2) env = sw0 env ts vs := by
  unfold swappedStores sw0
  rfl
theorem swP_ok {sc : Scope} {env : Env} {ts vs : List Expr} {r : Option (List Str)} {k k2 : Nat} {p p2 : Pos} (hs : env.scope = sc) (hk : env.scope.kind = .function) (h : swP sc ts vs = some r) : swappedStores [.Tuple ts k p] (.Tuple vs k2 p2) env = pure r := by
  have hb : env.blockKind = .function := by unfold Env.blockKind; rw [hk]; rfl
  have hb2 : (env.blockKind != .function) = false := by rw [hb]; rfl
  have hko : env.kindOf = fun x => sc.names.lookup x := by funext x; rw [← hs]; rfl
  rw [sw0_eq]
  unfold swP at h
  unfold sw0
  rw [hb2, Bool.or_false, hko]
  split at h
  · rename_i c; rw [if_pos c]; cases h; rfl
  · rename_i c; rw [if_neg c]
    split at h
    · rename_i c; rw [if_pos c]; cases h; rfl
    · rename_i c; rw [if_neg c]
      split at h
      · rename_i c; rw [if_pos c]; cases h; rfl
      · rename_i c; rw [if_neg c]
        split at h
        · rename_i c; rw [if_pos c]; cases h; rfl
        · rename_i c; rw [if_neg c]
          split at h
          · cases h
          · rename_i c; rw [if_neg c]; cases h; rfl
theorem ownOf_ne (b : Bool) (d : PyData) (k : Str) : ownOf b d ≠ .exc k := by
  unfold ownOf
  split <;> (try split) <;> intro h <;> cases h
theorem dsp_ok {dk : PyData} (hk : isKeyT dk = true) (k : Int) : dDct [.tuple [dk, .int k]] = .ok (.dict [(dk, .int k)]) := by
  cases dk with
  | tuple ds => simp [dDct, pairsI, pairsT, hk]
  | _ => cases hk
theorem own_list {Γ : Tb} {c : C} (h : ownC c = true) {e : Ev} {d : PyData} (he : evE Γ c e = .ok d) : ∃ ys, d = .list ys := by
  cases c with
  | lst es =>
    rw [evE] at he
    obtain ⟨ds, _, he⟩ := bind_eq he
    exact ⟨ds, (listD_ok he).1⟩
  | lc elt tg it ws =>
    rw [evE] at he
    obtain ⟨_, _, he⟩ := bind_eq he
    obtain ⟨ds, _, he⟩ := bind_eq he
    exact ⟨ds, (listD_ok he).1⟩
  | lcf elt tg it c ws =>
    rw [evE] at he
    obtain ⟨_, _, he⟩ := bind_eq he
    obtain ⟨ds, _, he⟩ := bind_eq he
    exact ⟨ds, (listD_ok he).1⟩
  | lc2 elt tg it tg' it' ws ws' =>
    rw [evE] at he
    obtain ⟨_, _, he⟩ := bind_eq he
    obtain ⟨ds, _, he⟩ := bind_eq he
    exact ⟨ds, (listD_ok he).1⟩
  | _ => cases h
theorem dsp_no {α : Type} {dk : PyData} (hk : isKeyT dk = false) (k : Int) (g : Sl → Res α) : ((dDct [.tuple [dk, .int k]]).bind fun d => (ownOf true d).bind g) = .no := by
  cases dk with
  | int i => simp [dDct, pairsI, ownOf, hk]
  | _ => simp [dDct, pairsI, pairsT, hk]
section
variable {T : Tx}
def rdP (Γ : Tb) (K : PySem.W.Frag) (E : XK) (H0 : Hp) (cs : List (Bool × C)) : TA := fun σ H Q => ∃ e, StOk K H0 e σ H ∧ Post K E H (evPar Γ cs e) (fun ss H2 => ∀ vs, PvAll K H2 H vs ss → Q vs H2)
theorem par_dsp {sc : Scope} {X : Cx} {E : XK} {H0 : Hp} (ok : CxOk T sc fcT X E) {c : C} {x : Expr} {cs : List (Bool × C)} {xs : List Expr} (h1 : notStar x = true) (h9 : dspC T sc c x = true) (ih : PA X xs (rdP T.Γ X.K E H0 cs)) : PA X (x :: xs) (rdP T.Γ X.K E H0 ((true, c) :: cs)) := by
  unfold dspC at h9
  split at h9
  · rename_i i k
    split at h9
    · rename_i y p j q z pos
      rw [Bool.and_eq_true] at h9
      refine pa_imp (pa_cons (pe_dspT ok.room.units ((sndE (.var i)).1 H0 ok false _ h9.1) ((sndE (.int k)).1 H0 ok false _ h9.2)) ih (starEach_ns h1 _ _)) fun σ H Q ⟨e, st, p⟩ => ?_
      have e1 : evE T.Γ (.blt .dict (.cons (.lst (.cons (.tup (.cons (.var i) (.cons (.int k) .nil))) .nil)) .nil)) e = (getV e i).bind fun d => dDct [.tuple [d, .int k]] := by
        simp only [evE, evs]
        cases getV e i <;> simp [tupD, listD, sizeLine_eq, dBlt]
      rw [evPar, e1] at p
      intro D hD
      have sD : Same H (upd H D (.dT [])) := same_new hD
      cases hg : getV e i with
      | no => rw [hg] at p; exact p.elim
      | exc n => exact absurd hg (getV_ne _ _ _)
      | ok dk =>
        rw [hg] at p
        refine ⟨e, st.mono sD, ?_⟩
        rw [evE, hg]
        intro H1 s1 x1 r1
        refine ⟨e, (st.mono sD).mono s1, ?_⟩
        rw [evE]
        intro H2 s2 x2 r2
        have hD2 : H2 D = some (.dT []) := s2 _ _ (s1 _ _ upd_same)
        have p : Post X.K E H ((dDct [.tuple [dk, .int k]]).bind fun d => (ownOf true d).bind fun s => (evPar T.Γ cs e).bind fun ss => .ok (s :: ss)) (fun ss H2 => ∀ vs, PvAll X.K H2 H vs ss → Q vs H2) := p
        cases hk : isKeyT dk with
        | false =>
          rw [dsp_no hk] at p
          exact p.elim
        | true =>
          obtain ⟨ks, rfl⟩ := isKeyT_of hk
          have e2 := dsp_ok hk k
          rw [e2] at p
          simp only [bind_ok, ownOf, hk, if_true] at p
          have r1' : Rp X.K H1 x1 (kTD ks) := r1
          obtain ⟨b, rfl, hb⟩ := rb_kTD (.rp r1')
          have r2' : Rp X.K H2 x2 (.int k) := r2
          refine ⟨hD2, b, ks, rfl, s2 _ _ hb, ?_⟩
          have s3 : Same H (upd H2 D (.dT [(ks, x2)])) := fun a o h => by
            rw [upd_ne (ne_of_none h hD)]
            exact s2 _ _ (s1 _ _ (sD _ _ h))
          cases r2'
          refine ⟨e, st.mono s3, (p.mono s3).bind.imp fun ss H4 s4 p4 vs pv => p4.now (.ref D :: vs) (.od hD s3 ⟨_, upd_same⟩ (s4 _ _ upd_same) (.int k) pv)⟩
    · cases h9
  · cases h9
theorem pa_par {sc : Scope} {X : Cx} {E : XK} {H0 : Hp} (ok : CxOk T sc fcT X E) : ∀ {cs : List (Bool × C)} {xs : List Expr}, parC T sc cs xs = true → PA X xs (rdP T.Γ X.K E H0 cs)
  | [], [], _ => pa_imp pa_nil fun σ H Q ⟨e, st, p⟩ => p.now _ .nil
  | (b, c) :: cs, x :: xs, h => by
    unfold parC at h
    simp only [Bool.and_eq_true, Bool.or_eq_true, Bool.not_eq_true'] at h
    obtain ⟨⟨h1, h23⟩, h4⟩ := h
    have ih := pa_par (H0 := H0) ok h4
    cases b with
    | false =>
      have h2 : chk T c sc false x = true := h23.elim (·.1) fun z => by cases z.1
      refine pa_imp (pa_cons ((sndE c).1 H0 ok false _ h2) ih (starEach_ns h1 _ _)) fun σ H Q ⟨e, st, p⟩ => ?_
      rw [evPar] at p
      refine ⟨e, st, p.bind.imp fun d H1 s1 p1 v r => ?_⟩
      have p1 : Post X.K E H1 ((evPar T.Γ cs e).bind fun ss => .ok (.v d :: ss)) (fun ss H2 => ∀ vs, PvAll X.K H2 H vs ss → Q vs H2) := p1
      exact ⟨e, st.mono s1, p1.bind.imp fun ss H2 s2 p3 vs pv => p3.now (v :: vs) (.sh (Rp.mono (.of s2) r) s1 pv)⟩
    | true =>
      rcases h23 with ⟨h2, h3⟩ | ⟨_, h9⟩
      rotate_left
      · exact par_dsp ok h1 h9 ih
      have ho : ownC c = true := h3.elim (fun z => by cases z) id
      refine pa_imp (pa_cons (sndU c ho H0 ok _ h2) ih (starEach_ns h1 _ _)) fun σ H Q ⟨e, st, p⟩ => ?_
      rw [evPar] at p
      refine ⟨e, st, p.bind.imp' fun d H1 er s1 p1 => ?_⟩
      obtain ⟨ys, rfl⟩ := own_list ho er
      refine ⟨ys, rfl, fun L H' acc s2 hD hL r => ?_⟩
      have p1 : Post X.K E H1 ((evPar T.Γ cs e).bind fun ss => .ok (.l ys :: ss)) (fun ss H2 => ∀ vs, PvAll X.K H2 H vs ss → Q vs H2) := p1
      have hn : H L = none := by
        cases z : H L with
        | none => rfl
        | some o => have := s1 _ _ z; rw [hD] at this; cases this
      exact ⟨e, (st.mono s1).mono s2, (p1.mono s2).bind.imp fun ss H2 s3 p3 vs pv => p3.now (.ref L :: vs) (.ow hn (s1.trans s2) ⟨_, hL⟩ (s3 _ _ hL) (r.mono (.of s3)) pv)⟩
  | [], _ :: _, h => by unfold parC at h; cases h
  | _ :: _, [], h => by unfold parC at h; cases h
theorem evPar_len {Γ : Tb} : ∀ {cs : List (Bool × C)} {e : Ev} {ss : List Sl}, evPar Γ cs e = .ok ss → ss.length = cs.length
  | [], e, ss, h => by cases h; rfl
  | (b, c) :: cs, e, ss, h => by
    rw [evPar] at h
    obtain ⟨d, _, h⟩ := bind_eq h
    obtain ⟨s, _, h⟩ := bind_eq h
    obtain ⟨r, h2, h⟩ := bind_eq h
    cases h
    rw [List.length_cons, List.length_cons, evPar_len h2]
theorem stCs_len {T : Tx} {sc : Scope} {fc : Str → Bool} : ∀ {is : List Nat} {ts : List Expr}, stCs T sc fc is ts = true → is.length = ts.length
  | [], [], _ => rfl
  | i :: is, t :: ts, h => by
    cases t with
    | Name x pos =>
      unfold stCs at h
      rw [Bool.and_eq_true] at h
      rw [List.length_cons, List.length_cons, stCs_len h.2]
    | _ => unfold stCs at h; cases h
  | [], _ :: _, h => by unfold stCs at h; cases h
  | _ :: _, [], h => by unfold stCs at h; cases h
theorem t_par (is : List Nat) (cs : List (Bool × C)) : SndS T (.par is cs) := by
  intro sc X E H0 ok x h
  unfold chkS at h
  split at h
  · rename_i ts tk tp vs vk vp pos
    rw [Bool.and_eq_true] at h
    obtain ⟨h1, h2⟩ := h
    have pa := pa_par (H0 := H0) ok.cx h1
    -- the end, once the slots are set
    have fin : ∀ {D : Ends} {σ : L2.St} {H H2 : Hp} {e : Ev} {ss : List Sl} {us : List V}, StOk X.K H0 e σ H → Same H H2 → PvAll X.K H2 H us ss → PostF X.K E H0 H2 ((setMany is ss e).bind fun e' => .ok (.nx e')) D → us.length = is.length ∧ D.nx (setσ is us σ) H2 := fun {D σ H H2 e ss us} st s pv p => by
      cases em : setMany is ss e with
      | no => rw [em] at p; exact p.elim
      | exc k => exact absurd em (setMany_ne _ _ _ _)
      | ok e2 =>
        rw [em] at p
        exact ⟨by rw [pv.length, setMany_len em], p _ H2 (setMany_ok pv st.same (kn_of st) (st.mono s) em) (KeepF.refl H2)⟩
    unfold parOk at h2
    split at h2
    · rename_i hw
      rw [Bool.and_eq_true, decide_eq_true_eq] at h2
      have hw2 := swP_ok (k := tk) (p := tp) (k2 := vk) (p2 := vp) ok.cx.hsc ok.kd hw
      obtain ⟨k1, k2, k3⟩ := pgs_names (T := T) ok.cx h2.1
      refine ps_imp (ps_asg (pe_tup pa) (pg_tup ok.cx.calm k1 k2 k3) (by unfold swapsWithSole; rfl) hw2) fun D σ H ⟨e, st, p⟩ => ?_
      rw [evS] at p
      refine ⟨e, st, (p.bind st.same).imp' fun ss H2 ee s p2 us pv => ?_⟩
      have hl : us.length ≤ 100 := by
        cases em : setMany is ss e with
        | no => rw [em] at p2; exact p2.elim
        | exc k => exact absurd em (setMany_ne _ _ _ _)
        | ok e2 => rw [pv.length, setMany_len em]; exact h2.2
      refine ⟨Nat.le_trans hl (by decide), fun q hq => ?_⟩
      have sn : Same H2 (upd H2 q (.tup us)) := same_new hq
      obtain ⟨f1, f2⟩ := fin st (s.trans sn) (pv.mono sn) (p2.mono (.of sn))
      exact ⟨q, us, rfl, SqT.of upd_same, f1, gs_set f1 f2⟩
    · rename_i names hw
      have hw2 := swP_ok (k := tk) (p := tp) (k2 := vk) (p2 := vp) ok.cx.hsc ok.kd hw
      split at h2
      · simp only [Bool.and_eq_true, decide_eq_true_eq] at h2
        obtain ⟨⟨⟨⟨⟨⟨e1, e2⟩, e3⟩, e4⟩, e5⟩, e6⟩, e7⟩ := h2
        subst e1 e2
        obtain ⟨a1, a2, a3⟩ := st_ok ok.cx e3
        obtain ⟨b1, b2, b3⟩ := st_ok ok.cx e4
        refine ps_imp (ps_par ok.cx.calm (cx_nd ok.cx) a1 b1 e5 (by rw [ok.cx.hsc]; exact e6) (by rw [ok.cx.hsc]; exact e7) pa hw2 (by unfold swapsWithSole; rfl)) fun D σ H ⟨e, st, p⟩ => ?_
        rw [evS] at p
        refine ⟨e, st, (p.bind st.same).imp' fun ss H2 ee s p2 us pv => ?_⟩
        obtain ⟨f1, f2⟩ := fin st s pv p2
        match us, f1, f2 with
        | [v, w], _, f2 => exact ⟨v, w, rfl, f2⟩
      · cases h2
    · cases h2
  · cases h
end
end Cg

set_option maxHeartbeats 1000000
namespace Cg
open PySem PySem.Spec PyProof.Rows L2
/-! ### 20a. dicts, except suites -/
section
variable {T : Tx}
theorem none_of {K : PySem.W.Frag} {H0 H : Hp} {e : Ev} {σ : L2.St} (st : StOk K H0 e σ H) {q : Addr} (hq : H q = none) : H0 q = none := by
  cases z : H0 q with
  | none => rfl
  | some o => have := st.same _ _ z; rw [hq] at this; cases this
theorem t_dnew (i : Nat) (t : Bool) : SndS T (.dnew i t) := by
  intro sc X E H0 ok x h
  unfold chkS at h
  split at h
  · rename_i x' px dp pos
    obtain ⟨h1, h2, h3⟩ := st_ok ok.cx h
    have sw : swapsWith (.Dict [] [] dp) (some (.Name x' px)) pos.line X.env = pure false := sw_nc rfl _ _ _
    cases t with
    | false =>
      refine ps_imp (ps_set (cx_nd ok.cx) h1 h2 pe_dnewK sw h3) fun D σ H ⟨e, st, p⟩ => ?_
      rw [evS] at p
      intro q hq
      have st2 := st.mono (same_new (o := .dK []) hq)
      exact p _ _ (st2.setO i (s := .d false []) ⟨q, [], [], rfl, none_of st hq, upd_same, .nil, rfl⟩ (st.own_ne hq)) (.of (same_new hq))
    | true =>
      refine ps_imp (ps_set (cx_nd ok.cx) h1 h2 pe_dnewT sw h3) fun D σ H ⟨e, st, p⟩ => ?_
      rw [evS] at p
      intro q hq
      have st2 := st.mono (same_new (o := .dT []) hq)
      exact p _ _ (st2.setO i (s := .d true []) ⟨q, [], [], rfl, none_of st hq, upd_same, .nil, rfl⟩ (st.own_ne hq)) (.of (same_new hq))
  · cases h
theorem t_stk : SndS T .stk := by
  intro sc X E H0 ok x h
  refine ⟨fun pins s σ H D I ⟨e, st, p⟩ => ?_⟩
  rw [evS] at p
  exact p.elim
theorem noSl_ok {x : Expr} (h : noSlB x = true) : NoSl x := by
  intro o i
  cases x <;> first
    | rfl
    | (simp [noSlB] at h; done)
theorem sw_sub {e o i : Expr} {p : Pos} (l : Nat) (env : Env) : swapsWith e (some (.Subscript o i p)) l env = pure false := by
  cases e <;> rfl
theorem isKeyT_all {k : PyData} {t : Bool} (h : (if t = true then isKeyT k else isKey k) = true) : (t = true ∧ ∃ ks, k = kTD ks) ∨ (t = false ∧ ∃ k', k = kD k') := by
  cases t with
  | true => exact .inl ⟨rfl, isKeyT_of h⟩
  | false => exact .inr ⟨rfl, isKey_of h⟩
theorem t_dput (i : Nat) {k v : C} (hk : Snd T k) (hv : Snd T v) : SndS T (.dput i k v) := by
  intro sc X E H0 ok x h
  unfold chkS at h
  split at h
  · simp only [Bool.and_eq_true] at h
    obtain ⟨⟨⟨h1, h2⟩, h3⟩, h4⟩ := h
    obtain ⟨k1, k2, k3, k4⟩ := nm_ok ok.cx h1
    have hu : X.A.units + 1 < cLine := by have := ok.cx.room.units; omega
    refine ps_imp (ps_dput hu (pe_var k1 k2 k3 k4) (hk.1 H0 ok.cx false _ h2) (hv.1 H0 ok.cx false _ h3) (sw_sub _ _)) fun D σ H ⟨e, st, p⟩ => ?_
    rw [evS] at p
    cases ei : e[i]? with
    | none => rw [ei] at p; exact p.elim
    | some so =>
      rw [ei] at p
      cases so with
      | none => exact p.elim
      | some sl =>
        cases sl with
        | v d => exact p.elim
        | l ds => exact p.elim
        | d t kvs =>
          have p : PostF X.K E H0 H ((evE T.Γ v e).bind fun y => (evE T.Γ k e).bind fun x => putD kvs t x y (fun kvs' => .ok (.nx (e.set i (some (.d t kvs')))))) D := p
          refine ⟨e, st, (p.bind st.same).imp fun d H1 s1 p1 w r => ?_⟩
          have hat := (st.mono s1).at_ i _ ei
          have sg : ∃ a, σ[i]? = some (some (.ref a)) := by
            cases t with
            | false => obtain ⟨a, _, _, e1, _⟩ := hat; exact ⟨a, getD_some e1⟩
            | true => obtain ⟨a, _, _, e1, _⟩ := hat; exact ⟨a, getD_some e1⟩
          obtain ⟨a, sa⟩ := sg
          refine ⟨.ref a, sa, e, st.mono s1, (p1.bind (st.mono s1).same).imp fun dk H2 s2 p2 y ry => ?_⟩
          have hat := ((st.mono s1).mono s2).at_ i _ ei
          unfold putD at p2
          by_cases hc : kvs.length < 1000 ∧ (if t = true then isKeyT dk else isKey dk) = true
          · rw [if_pos hc] at p2
            have r2 : Rp X.K H2 w d := Rp.mono (.of s2) (show Rp X.K H1 w d from r)
            have ry : Rp X.K H2 y dk := ry
            rcases isKeyT_all hc.2 with ⟨rfl, ks', rfl⟩ | ⟨rfl, k', rfl⟩
            · obtain ⟨a', ks, ds, e1, n0, hH, ra, rfl⟩ := hat
              have ea : a' = a := by
                have := getD_some e1
                rw [sa] at this
                cases this
                rfl
              subst ea
              obtain ⟨b, rfl, hb⟩ := rb_kTD (Rb.rp ry)
              have hl := ra.length
              have hz : ks.length < sizeLine := by
                have h9 := hc.1
                simp only [List.length_zip, List.length_map] at h9 hl
                exact Nat.lt_of_lt_of_le (by omega : ks.length < 1000) (by decide)
              obtain ⟨ds', ep, rp⟩ := kvPut_rel eqv_kTD ks' r2 ra
              refine ⟨a', _, rfl, DPut.t hH hb hz, ?_⟩
              have kf : KeepF H2 (upd H2 a' (.dT (putK ks ks' w))) := fun c u q f => by
                rw [upd_ne]
                · exact q
                · rintro rfl
                  rw [hH] at q
                  cases q
                  exact f
              refine p2 σ _ (((st.mono s1).mono s2).change ei rfl e1 n0 hH (fun z => z) (s' := .d true _) ⟨a', putK ks ks' w, ds', rfl, n0, upd_same, rp.mono kf, ?_⟩) kf
              exact ep
            · obtain ⟨a', ks, ds, e1, n0, hH, ra, rfl⟩ := hat
              have ea : a' = a := by
                have := getD_some e1
                rw [sa] at this
                cases this
                rfl
              subst ea
              have ey := rp_kD ry
              subst ey
              have hl := ra.length
              have hz : ks.length < sizeLine := by
                have h9 := hc.1
                simp only [List.length_zip, List.length_map] at h9 hl
                exact Nat.lt_of_lt_of_le (by omega : ks.length < 1000) (by decide)
              obtain ⟨ds', ep, rp⟩ := kvPut_rel eqv_kD k' r2 ra
              refine ⟨a', _, rfl, DPut.k hH hz, ?_⟩
              have kf : KeepF H2 (upd H2 a' (.dK (putK ks k' w))) := fun c u q f => by
                rw [upd_ne]
                · exact q
                · rintro rfl
                  rw [hH] at q
                  cases q
                  exact f
              refine p2 σ _ (((st.mono s1).mono s2).change ei rfl e1 n0 hH (fun z => z) (s' := .d false _) ⟨a', putK ks k' w, ds', rfl, n0, upd_same, rp.mono kf, ?_⟩) kf
              exact ep
          · rw [if_neg hc] at p2
            exact p2.elim
  · cases h
/-! what an except suite tells -/
section
variable {sc : Scope} {Y : Cx} {a : Addr} {oe : Obj} {pn : List (Addr × Obj)} {k n : Str} {j : Nat}
/-- the context of the suite -/
structure SuOk (T : Tx) (sc : Scope) (Y : Cx) (a : Addr) (oe : Obj) (k n : Str) (j : Nat) : Prop where
  hN : Y.N = T.N
  nd : T.N.Nodup
  hsc : Y.env.scope = sc
  hj : T.N[j]? = some n
  vis : Vis sc n
  d1 : (n == ("__debug__" : Str)) = false
  d2 : (n == ("__classdict__" : Str)) = false
  fre : ∀ x, T.fr.contains x = true → Y.mg x = none
  hx : HxOk T Y.K Y.mg
  hk : T.hx.contains k = true
  z : Zc (.ref (He.ga Y.K k)) none oe
  f : ∃ vs, oe.data = .fields vs
  fn : ∀ x, Y.fn x = true
theorem pe_flag (ok : SuOk T sc Y a oe k n j) {x : Expr} {y : Str} (h : flC T sc n [y] [x] = true) :
    PE (Y.suite a ((a, oe) :: pn)) x (fun σ H Q => σ[j]? = some (some (.ref a)) ∧ Q (.bl (decide (y = k))) H) := by
  unfold flC at h
  split at h
  · rename_i heq; cases heq
  · rename_i k0 ks f fp x' xp y' yp pos es heq1 heq2
    cases heq1
    cases heq2
    simp only [Bool.and_eq_true, decide_eq_true_eq] at h
    obtain ⟨⟨⟨⟨⟨⟨e1, e2⟩, e3⟩, e4⟩, e5⟩, e6⟩, _⟩ := h
    subst e1 e3 e4
    unfold blC glC at e2
    unfold glC at e5
    rw [Bool.and_eq_true, Bool.and_eq_true] at e2
    rw [Bool.and_eq_true] at e5
    obtain ⟨p1, _, p3⟩ := plN_ok e2.1.2
    obtain ⟨q1, _, q3⟩ := plN_ok e5.2
    have g1 : Gl (Y.suite a ((a, oe) :: pn)) "isinstance" := by
      have h1 := e2.1.1
      split at h1
      · rename_i e
        show Y.env.scope.names.lookup _ = _
        rw [ok.hsc]; exact e
      · cases h1
    have g2 : Gl (Y.suite a ((a, oe) :: pn)) y' := by
      have h1 := e5.1
      split at h1
      · rename_i e
        show Y.env.scope.names.lookup _ = _
        rw [ok.hsc]; exact e
      · cases h1
    obtain ⟨c1, c2, c3⟩ := ok.hx.xc _ ok.hk
    obtain ⟨_, _, c4⟩ := ok.hx.xc _ e6
    refine pe_imp (pe_callB (call_isE (X := Y) (pn := pn) c1 ok.z ok.f) g1 (ok.fre _ e2.2) boot_isinstance (pa_cons (pe_var (i := j) (by rw [show (Y.suite a ((a, oe) :: pn)).N = T.N from ok.hN]; exact ok.hj) (by rw [show (Y.suite a ((a, oe) :: pn)).env.scope = sc from ok.hsc]; exact ok.vis) ok.d1 ok.d2)
      (pa_cons (pe_glob g2 c4 (v := .ref (He.ga Y.K y')) rfl q1) pa_nil)) p3 p1) fun σ H Q ⟨s1, q⟩ => ?_
    exact ⟨.ref a, s1, .ref (He.ga Y.K y'), .ref (He.ga Y.K y'), decide (y' = k), rfl, fun u r => by cases r; rfl, ok.hx.ki _ _ ok.hk e6, q⟩
  · cases h
theorem flC_tail {T : Tx} {sc : Scope} {n k : Str} {ks : List Str} {es : List Expr} (h : flC T sc n (k :: ks) es = true) : ∃ e es', es = e :: es' ∧ flC T sc n [k] [e] = true ∧ flC T sc n ks es' = true ∧ notStar e = true := by
  unfold flC at h
  split at h
  · contradiction
  · rename_i k0 ks0 f fp x' xp y' yp pos es0 heq1
    cases heq1
    rw [Bool.and_eq_true] at h
    refine ⟨_, _, rfl, ?_, h.2, rfl⟩
    unfold flC
    rw [h.1]
    rfl
  · cases h
theorem pa_flags (ok : SuOk T sc Y a oe k n j) : ∀ {g : List Str} {es : List Expr}, flC T sc n g es = true → PA (Y.suite a ((a, oe) :: pn)) es (fun σ H Q => σ[j]? = some (some (.ref a)) ∧ Q (g.map fun y => V.bl (decide (y = k))) H)
  | [], es, h => by
    cases es with
    | nil => exact pa_imp pa_nil fun σ H Q z => z.2
    | cons e es => simp [flC] at h
  | y :: g, es, h => by
    obtain ⟨e, es', rfl, h1, h2, h3⟩ := flC_tail h
    exact pa_imp (pa_cons (pe_flag ok h1) (pa_flags ok h2) (starEach_ns h3 _ _)) fun σ H Q z => ⟨z.1, z.1, z.2⟩
def fb (k : Str) (g : List Str) : List V := g.map fun y => V.bl (decide (y = k))
theorem fb_flat (k : Str) (g : List Str) : (fb k g).all flatV = true := by
  unfold fb
  rw [List.all_map]
  exact List.all_eq_true.mpr fun _ _ => rfl
theorem fb_app (k : Str) (g h : List Str) : fb k (g ++ h) = fb k g ++ fb k h := List.map_append
theorem fb_len (k : Str) (g : List Str) : (fb k g).length = g.length := List.length_map _
theorem fb_ix {k : Str} {g : List Str} {m : Nat} (h : g.findIdx? (fun x => decide (x = k)) = some m) : ∃ z, (fb k g)[m]? = some z ∧ eqV z (.bl true) = true ∧ ∀ (m' : Nat) (z' : V), m' < m → (fb k g)[m']? = some z' → eqV z' (.bl true) = false := by
  rw [List.findIdx?_eq_some_iff_getElem] at h
  obtain ⟨h1, h2, h3⟩ := h
  refine ⟨.bl true, ?_, rfl, fun m' z' hm hz => ?_⟩
  · unfold fb
    rw [List.getElem?_map, List.getElem?_eq_getElem h1]
    simp only [Option.map_some, h2]
  · unfold fb at hz
    have h4 : m' < g.length := by omega
    rw [List.getElem?_map, List.getElem?_eq_getElem h4] at hz
    cases hz
    have := h3 m' hm
    simp only [Bool.not_eq_true] at this
    show eqV (V.bl (decide (g[m'] = k))) (.bl true) = false
    rw [this]
    rfl
theorem suN (ok : SuOk T sc Y a oe k n j) {i : Nat} {x : Str} (h : nmC T sc i x = true) : (Y.suite a ((a, oe) :: pn)).N[i]? = some x ∧ Vis (Y.suite a ((a, oe) :: pn)).env.scope x ∧ (x == ("__debug__" : Str)) = false ∧ (x == ("__classdict__" : Str)) = false := by
  unfold nmC at h
  simp only [Bool.and_eq_true, decide_eq_true_eq] at h
  obtain ⟨p1, p2, _⟩ := plN_ok h.2
  exact ⟨by rw [show (Y.suite a ((a, oe) :: pn)).N = T.N from ok.hN]; exact h.1.1, by rw [show (Y.suite a ((a, oe) :: pn)).env.scope = sc from ok.hsc]; exact lkC_vis h.1.2, p1, p2⟩
theorem suS (ok : SuOk T sc Y a oe k n j) {i : Nat} {x : Str} (h : stC T sc fcT i x = true) : (Y.suite a ((a, oe) :: pn)).N[i]? = some x ∧ Loc (Y.suite a ((a, oe) :: pn)).env.scope x ∧ ((Y.suite a ((a, oe) :: pn)).fn x = true ∨ (Y.suite a ((a, oe) :: pn)).env.scope.names.lookup x = some .local) := by
  unfold stC at h
  simp only [Bool.and_eq_true, decide_eq_true_eq] at h
  obtain ⟨h1, h2⟩ := h
  refine ⟨by rw [show (Y.suite a ((a, oe) :: pn)).N = T.N from ok.hN]; exact h1, ?_, .inl (ok.fn x)⟩
  rw [show (Y.suite a ((a, oe) :: pn)).env.scope = sc from ok.hsc]
  split at h2
  · rename_i e; exact .inl e
  · rename_i e; exact .inr e
  · cases h2
/-- (x + [..]).index(True) -/
theorem pe_ixC (ok : SuOk T sc Y a oe k n j) {i : Nat} {g : List Str} {x : Expr} (h : ixC T sc n i g x = true) :
    PE (Y.suite a ((a, oe) :: pn)) x (fun σ H Q => σ[j]? = some (some (.ref a)) ∧ ∃ p g0 m, σ[i]? = some (some (.ref p)) ∧ H p = some (.lst (fb k g0)) ∧ g0.length ≤ 100 ∧ g.length ≤ 100 ∧ (g0 ++ g).findIdx? (fun x => decide (x = k)) = some m ∧ ∀ H', Same H H' → Q (.int (m : Nat)) H') := by
  unfold ixC at h
  split at h
  · rename_i x' xp es lp bp m' apos b cp1 cp2 cpos
    simp only [Bool.and_eq_true, decide_eq_true_eq] at h
    obtain ⟨⟨⟨⟨e1, e2⟩, e3⟩, e4⟩, e5⟩ := h
    subst e1 e2
    obtain ⟨n1, n2, n3, n4⟩ := suN (pn := pn) ok e3
    refine pe_imp (pe_bm PySem.F.plainAttrs_list PySem.F.slot_list_index PySem.F.type_list_index mt_index (pe_op op_cat (pe_var n1 n2 n3 n4) (pe_lst (pa_flags ok e4))) (pa_cons pe_bl pa_nil) rfl rfl e5) fun σ H Q ⟨sj, p, g0, m, si, hp, l0, l1, hm, q⟩ => ?_
    refine ⟨.ref p, si, sj, ?_, fun p2 hp2 => ?_⟩
    · show (fb k g).length ≤ sizeLine
      rw [fb_len]
      exact Nat.le_trans l1 (by decide)
    · have s1 := same_new (o := .lst (fb k g)) hp2
      refine ⟨p, p2, fb k g0, fb k g, rfl, rfl, s1 _ _ hp, upd_same, ?_, fun p3 hp3 => ?_⟩
      · rw [fb_len, fb_len]
        exact Nat.le_trans (by omega : g0.length + g.length ≤ 200) (by decide)
      · have s2 := same_new (o := .lst (fb k g0 ++ fb k g)) hp3
        rw [← fb_app]
        obtain ⟨z, z1, z2, z3⟩ := fb_ix hm
        refine ⟨.inl ⟨rfl, fb k (g0 ++ g), SqL.of upd_same⟩, p3, fb k (g0 ++ g), .bl true, m, z, rfl, rfl, SqL.of upd_same, rfl, fb_flat k _, z1, z2, z3, q _ (s1.trans ?_)⟩
        rw [fb_app]
        exact s2
  · cases h
def tHd (T : Tx) (K : PySem.W.Frag) (k : Str) (j : Nat) (a : Addr) (h : Hd) : TS := fun D σ H => σ[j]? = some (some (.ref a)) ∧ σ.length = T.N.length ∧ ∃ d, hdEv h k = .ok d ∧ ∀ v H', Same H H' → Rp K H' v d → D.rt v H'
def tagD (tag : Option Str) (m : Nat) : PyData := match tag with
  | none => .int m
  | some t => .tuple [.str t, .int m]
theorem hdIx_ok {g : List Str} {k : Str} {d : PyData} (h : hdIx g k = .ok d) : ∃ m : Nat, g.findIdx? (fun x => decide (x = k)) = some m ∧ d = .int m := by
  unfold hdIx at h
  split at h
  · rename_i m hm
    cases h
    exact ⟨m, hm, rfl⟩
  · cases h
theorem ij_ne {i j : Nat} {x n : Str} (hx : T.N[i]? = some x) (hj : T.N[j]? = some n) (h : x ≠ n) : i ≠ j := fun z => h (by rw [z, hj] at hx; exact (Option.some.inj hx).symm)
theorem get_set {σ : L2.St} {i : Nat} {v : V} (h : i < σ.length) : (σ.set i (some v))[i]? = some (some v) := List.getElem?_set_self h
theorem pss_hd (ok : SuOk T sc Y a oe k n j) {h : Hd} {ss : List Stmt} (hc : hdC T sc n h ss = true) : PSs (Y.suite a ((a, oe) :: pn)) ss (tHd T Y.K k j a h) := by
  have ndY : (Y.suite a ((a, oe) :: pn)).N.Nodup := by rw [show (Y.suite a ((a, oe) :: pn)).N = T.N from ok.hN]; exact ok.nd
  unfold hdC at hc
  split at hc
  · rename_i i g1 g2 g3 tag x px es1 p1 p2 y py z pz es2 p3 p4 p5 r p6
    simp only [Bool.and_eq_true, decide_eq_true_eq] at hc
    obtain ⟨⟨⟨⟨⟨⟨⟨⟨⟨⟨e0, e1⟩, e2⟩, e3⟩, e4⟩, e5⟩, e6⟩, l1⟩, l2⟩, l3⟩, e7⟩ := hc
    subst e1
    obtain ⟨a1, a2, a3⟩ := suS (pn := pn) ok e2
    obtain ⟨b1, b2, b3⟩ := suS (pn := pn) ok e4
    obtain ⟨c1, c2, c3, c4⟩ := suN (pn := pn) ok e5
    have hne : i ≠ j := ij_ne (T := T) (by rw [show (Y.suite a ((a, oe) :: pn)).N = T.N from ok.hN] at a1; exact a1) ok.hj e0
    have hin : i < T.N.length := by
      rw [show (Y.suite a ((a, oe) :: pn)).N = T.N from ok.hN] at a1
      exact (List.getElem?_eq_some_iff.mp a1).1
    -- the last statement
    have last : PSs (Y.suite a ((a, oe) :: pn)) [.Return (some r) p6] (fun D σ H => σ[j]? = some (some (.ref a)) ∧ ∃ p g0 m, σ[i]? = some (some (.ref p)) ∧ H p = some (.lst (fb k g0)) ∧ g0.length ≤ 100 ∧ (g0 ++ g3).findIdx? (fun x => decide (x = k)) = some m ∧
        ∀ H' v, Same H H' → Rp Y.K H' v (tagD tag m) → D.rt v H') := by
      split at e7
      · rename_i r'
        refine pss_imp (pss_one (ps_ret (pe_ixC (pn := pn) ok e7))) fun D σ H ⟨s1, p, g0, m, s2, s3, s4, s5, q⟩ => ?_
        exact ⟨s1, p, g0, m, s2, s3, s4, by omega, s5, fun H' sm => q H' _ sm (.int _)⟩
      · rename_i t u q1 q2 r' q3 q4
        rw [Bool.and_eq_true, decide_eq_true_eq] at e7
        obtain ⟨e7, e8⟩ := e7
        subst e7
        have hns : notStar r' = true := by
          unfold ixC at e8
          split at e8
          · rfl
          · cases e8
        refine pss_imp (pss_one (ps_ret (pe_tup (pa_cons pe_str (pa_cons (pe_ixC (pn := pn) ok e8) pa_nil (starEach_ns hns _ _)))))) fun D σ H ⟨s1, p, g0, m, s2, s3, s4, s5, q⟩ => ?_
        refine ⟨s1, p, g0, m, s2, s3, s4, by omega, s5, fun H' sm => ⟨by show 2 ≤ sizeLine; decide, fun t ht => ?_⟩⟩
        exact q _ _ (sm.trans (same_new ht)) (.tup upd_same (.cons (.str _) (.cons (.int _) .nil)))
      · cases e7
    refine pss_imp (pss_cons (ps_set (i := i) ndY a1 a2 (pe_lst (pa_flags ok e3)) (sw_nc rfl _ _ _) a3) (pss_cons (ps_set (i := i) ndY b1 b2 (pe_op op_cat (pe_var c1 c2 c3 c4) (pe_lst (pa_flags ok e6))) (sw_nc rfl _ _ _) b3) last)) fun D σ H ⟨sj, hl, d, hd, q⟩ => ?_
    have hdm : ∃ m : Nat, (g1 ++ g2 ++ g3).findIdx? (fun x => decide (x = k)) = some m ∧ d = tagD tag m := by
      cases tag with
      | none =>
        obtain ⟨m, h1, h2⟩ := hdIx_ok (show hdIx (g1 ++ g2 ++ g3) k = .ok d from hd)
        exact ⟨m, h1, h2⟩
      | some t =>
        have hd : ((hdIx (g1 ++ g2 ++ g3) k).bind fun d => Res.ok (.tuple [.str t, d])) = .ok d := hd
        cases hi : hdIx (g1 ++ g2 ++ g3) k with
        | ok d' =>
          rw [hi] at hd
          cases hd
          obtain ⟨m, h1, h2⟩ := hdIx_ok hi
          exact ⟨m, h1, by rw [h2]; rfl⟩
        | exc _ => rw [hi] at hd; cases hd
        | no => rw [hi] at hd; cases hd
    obtain ⟨m, hm, rfl⟩ := hdm
    have li : i < σ.length := by rw [hl]; exact hin
    refine ⟨sj, ?_, fun p hp => ?_⟩
    · show (fb k g1).length ≤ sizeLine
      rw [fb_len]
      exact Nat.le_trans l1 (by decide)
    · have s1 := same_new (o := .lst (fb k g1)) hp
      refine ⟨.ref p, get_set li, by rw [List.getElem?_set_ne hne]; exact sj, ?_, fun p2 hp2 => ?_⟩
      · show (fb k g2).length ≤ sizeLine
        rw [fb_len]
        exact Nat.le_trans l2 (by decide)
      · have s2 := same_new (o := .lst (fb k g2)) hp2
        refine ⟨p, p2, fb k g1, fb k g2, rfl, rfl, s2 _ _ upd_same, upd_same, ?_, fun p3 hp3 => ?_⟩
        · rw [fb_len, fb_len]
          exact Nat.le_trans (by omega : g1.length + g2.length ≤ 200) (by decide)
        · have s3 := same_new (o := .lst (fb k g1 ++ fb k g2)) hp3
          refine ⟨by rw [List.getElem?_set_ne hne, List.getElem?_set_ne hne]; exact sj, p3, g1 ++ g2, m, get_set (by rw [List.length_set]; exact li), by rw [fb_app]; exact upd_same, by rw [List.length_append]; omega, hm, fun H' v sm r => q v H' (((s1.trans s2).trans s3).trans sm) r⟩
  · rename_i g es lp m' apos b cp1 cp2 cpos rp
    simp only [Bool.and_eq_true, decide_eq_true_eq] at hc
    obtain ⟨⟨⟨⟨e1, e2⟩, e3⟩, e4⟩, e5⟩ := hc
    subst e1 e2
    refine pss_imp (pss_one (ps_ret (pe_bm PySem.F.plainAttrs_list PySem.F.slot_list_index PySem.F.type_list_index mt_index (pe_lst (pa_flags ok e3)) (pa_cons pe_bl pa_nil) rfl rfl e4))) fun D σ H ⟨sj, hl, d, hd, q⟩ => ?_
    obtain ⟨m, hm, rfl⟩ := hdIx_ok (show hdIx g k = .ok d from hd)
    refine ⟨sj, ?_, fun p hp => ?_⟩
    · show (fb k g).length ≤ sizeLine
      rw [fb_len]
      exact Nat.le_trans e5 (by decide)
    · obtain ⟨z, z1, z2, z3⟩ := fb_ix hm
      exact ⟨.inl ⟨rfl, fb k g, SqL.of upd_same⟩, p, fb k g, .bl true, m, z, rfl, rfl, SqL.of upd_same, rfl, fb_flat k _, z1, z2, z3, q _ _ (same_new hp) (.int _)⟩
  · rename_i g k' e rp
    rw [Bool.and_eq_true] at hc
    refine pss_imp (pss_one (ps_ret (pe_flag ok hc.1))) fun D σ H ⟨sj, hl, d, hd, q⟩ => ⟨sj, ?_⟩
    have hd : (if g.contains k = true then Res.ok (PyData.bool (decide (k' = k))) else .no) = .ok d := hd
    split at hd
    · cases hd
      exact q _ _ (Same.refl _) (.bl _)
    · cases hd
  · rename_i g k' t e c1 c2 u c3 c4 c5 rp
    simp only [Bool.and_eq_true, decide_eq_true_eq] at hc
    obtain ⟨⟨e1, e2⟩, e3⟩ := hc
    subst e2
    have hpt : pT e = true := by
      unfold flC at e1
      split at e1
      · rename_i heq; cases heq
      · rename_i heq1 heq2; cases heq2; rfl
      · cases e1
    refine pss_imp (pss_one (ps_ret (pe_ifExp (pt_val (pe_flag ok e1) fun w => isTrue_pT hpt _ w) pe_non pe_str))) fun D σ H ⟨sj, hl, d, hd, q⟩ => ⟨sj, decide (k' = k), rfl, ?_⟩
    have hd : (if g.contains k = true then Res.ok (if k' = k then PyData.none else .str u) else .no) = .ok d := hd
    split at hd
    · cases hd
      by_cases hk : k' = k
      · rw [if_pos hk] at q
        rw [decide_eq_true hk]
        exact q _ _ (Same.refl _) .non
      · rw [if_neg hk] at q
        rw [decide_eq_false hk]
        exact q _ _ (Same.refl _) (.str _)
    · cases hd
  · cases hc
end
theorem hd_ne (h : Hd) (k k' : Str) : hdEv h k ≠ .exc k' := by
  have ix : ∀ g, hdIx g k ≠ .exc k' := fun g => by unfold hdIx; split <;> (intro z; cases z)
  unfold hdEv
  split
  · exact ix _
  · intro z
    rename_i g1 g2 g3 t
    cases hi : hdIx (g1 ++ g2 ++ g3) k with
    | ok d => rw [hi] at z; cases z
    | exc k2 => rw [hi] at z; cases z; exact ix _ hi
    | no => rw [hi] at z; cases z
  · exact ix _
  · exact ne_ite
  · exact ne_ite
theorem takes_len {X : Cx} {W : WX} {E : XK} (tk : Takes X W) (i : ∀ cls d σ H, σ.length = X.N.length → E cls d H → W cls d σ H) : Takes X (fun cls d _ H => E cls d H) :=
  fun u s' ⟨a, B, sI, pins, σ, H, cls, d, e, I, nb, up, sky, na, os, ag, w⟩ => tk u s' ⟨a, B, sI, pins, σ, H, cls, d, e, I, nb, up, sky, na, os, ag, i _ _ _ _ I.len w⟩
theorem SxOk.tr {sc : Scope} {X : Cx} {E E' : XK} (ok : SxOk T sc X E) {pn : List (Addr × Obj)} {xe : Value → Shared → Prop} (tk : Takes (X.tr pn xe) (fun cls d _ H => E' cls d H)) (po : PassesOwn (model X.prog X.w) X.A X.env xe) : SxOk T sc (X.tr pn xe) E' :=
  ⟨⟨ok.cx.hN, ok.cx.nd, ok.cx.hsc, ok.cx.calm, ok.cx.room, ok.cx.tab, Pas.takes ok.st ok.fr tk, ok.cx.hfn⟩, po, tk, ok.kd, ok.st, ok.fr⟩
theorem hdEv_in {sc : Scope} {n : Str} {h : Hd} {k : Str} {d : PyData} {ss : List Stmt} (e : hdEv h k = .ok d) (hc : hdC T sc n h ss = true) : T.hx.contains k = true := by
  have fl : ∀ {g : List Str} {es : List Expr}, flC T sc n g es = true → ∀ x ∈ g, T.hx.contains x = true := by
    intro g
    induction g with
    | nil => intro es _ x hx; cases hx
    | cons y g ih =>
      intro es hf x hx
      obtain ⟨e, es', rfl, h1, h2, _⟩ := flC_tail hf
      rcases List.mem_cons.mp hx with rfl | hx
      · unfold flC at h1
        split at h1
        · rename_i heq; cases heq
        · rename_i heq1 heq2
          cases heq1
          simp only [Bool.and_eq_true] at h1
          exact h1.1.2
        · cases h1
      · exact ih h2 x hx
  have mem : ∀ {g : List Str} {m : Nat}, g.findIdx? (fun x => decide (x = k)) = some m → k ∈ g := by
    intro g m h1
    rw [List.findIdx?_eq_some_iff_getElem] at h1
    obtain ⟨h1, h2, _⟩ := h1
    rw [← of_decide_eq_true h2]
    exact List.getElem_mem h1
  have ixc : ∀ {i : Nat} {g : List Str} {r : Expr}, ixC T sc n i g r = true → ∀ x ∈ g, T.hx.contains x = true := by
    intro i g r hr
    unfold ixC at hr
    split at hr
    · simp only [Bool.and_eq_true] at hr
      exact fl hr.1.2
    · cases hr
  unfold hdC at hc
  split at hc
  · rename_i i g1 g2 g3 tag x px es1 p1 p2 y py z pz es2 p3 p4 p5 r p6
    simp only [Bool.and_eq_true, decide_eq_true_eq] at hc
    obtain ⟨⟨⟨⟨⟨⟨⟨⟨⟨⟨e0, e1⟩, e2⟩, e3⟩, e4⟩, e5⟩, e6⟩, l1⟩, l2⟩, l3⟩, e7⟩ := hc
    have h3 : ∀ x ∈ g3, T.hx.contains x = true := by
      split at e7
      · exact ixc e7
      · rw [Bool.and_eq_true] at e7
        exact ixc e7.2
      · cases e7
    have hm : k ∈ g1 ++ g2 ++ g3 := by
      cases tag with
      | none =>
        obtain ⟨m, h1, _⟩ := hdIx_ok (show hdIx (g1 ++ g2 ++ g3) k = .ok d from e)
        exact mem h1
      | some t =>
        have e : ((hdIx (g1 ++ g2 ++ g3) k).bind fun d => Res.ok (.tuple [.str t, d])) = .ok d := e
        cases hi : hdIx (g1 ++ g2 ++ g3) k with
        | ok d' =>
          obtain ⟨m, h1, _⟩ := hdIx_ok hi
          exact mem h1
        | exc _ => rw [hi] at e; cases e
        | no => rw [hi] at e; cases e
    rcases List.mem_append.mp hm with hm | hm
    · rcases List.mem_append.mp hm with hm | hm
      · exact fl e3 k hm
      · exact fl e6 k hm
    · exact h3 k hm
  · rename_i g es lp m' apos b cp1 cp2 cpos rp
    simp only [Bool.and_eq_true, decide_eq_true_eq] at hc
    obtain ⟨m, h1, _⟩ := hdIx_ok (show hdIx g k = .ok d from e)
    exact fl hc.1.1.2 k (mem h1)
  · rename_i g k' e' rp
    rw [Bool.and_eq_true, List.all_eq_true] at hc
    have hd : (if g.contains k = true then Res.ok (PyData.bool (decide (k' = k))) else .no) = .ok d := e
    split at hd
    · rename_i hg
      exact hc.2 k (List.contains_iff_mem.mp hg)
    · cases hd
  · rename_i g k' t e' c1 c2 u c3 c4 c5 rp
    simp only [Bool.and_eq_true, decide_eq_true_eq, List.all_eq_true] at hc
    have hd : (if g.contains k = true then Res.ok (if k' = k then PyData.none else .str t) else .no) = .ok d := e
    split at hd
    · rename_i hg
      exact hc.2 k (List.contains_iff_mem.mp hg)
    · cases hd
  · cases hc
theorem t_try (j : Nat) {b : Ss} (h : Hd) (hb : SndSs T b) : SndS T (.try_ j b h) := by
  intro sc X E H0 ok x hx
  unfold chkS at hx
  split at hx
  · rename_i body x' np n b0 suite hp pos
    simp only [Bool.and_eq_true, decide_eq_true_eq, Bool.not_eq_true'] at hx
    obtain ⟨⟨⟨⟨⟨⟨⟨e1, e2⟩, e3⟩, e4⟩, e5⟩, e6⟩, e7⟩, e8⟩ := hx
    subst e1
    obtain ⟨g1, g2, g3⟩ := gl_ok ok.cx e2
    obtain ⟨d1, d2, _⟩ := plN_ok e8
    have hxn : T.hx ≠ [] := fun z => by rw [z] at e5; cases e5
    have HX := ok.cx.tab.hdx hxn
    have hnm : Names X "GearError" (.ref (He.ga X.K "GearError")) := ⟨g1, g3, .inl HX.ge⟩
    have hs : X.stack = X.env :: X.outer := ok.st
    have hf : X.env.frame = some X.env.locals := ok.fr
    refine ps_imp (ps_try_as (i := j) hs hf (cx_nd ok.cx) (by rw [ok.cx.hN]; exact e3) (by show X.env.scope.names.lookup n = _; rw [ok.cx.hsc]; exact e4) hnm ok.takes
      (tb := fun W D σ H => ∃ E' : XK, (∀ cls d σ' H', σ'.length = X.N.length → E' cls d H' → W cls d σ' H') ∧ rdSs T.Γ X.K E' H0 b D σ H)
      (ts := fun a cls d D σ H => ∃ k, cls = exV X.K k ∧ d = none ∧ T.hx.contains k = true ∧ tHd T X.K k j a h D σ H)
      (fun W pn xe tk po => ⟨fun pins s σ H D I ⟨E', i, z⟩ => (hb H0 (ok.tr (takes_len tk i) po) body e6).run pins s σ H D I z⟩)
      (fun a oe cls d pn hz hfl => ⟨fun pins s σ H D I ⟨k, ec, ed, hk, z⟩ => ?_⟩)) fun D σ H ⟨e, st, p⟩ => ?_
    · subst ec ed
      have su : SuOk T sc X a oe k n j := ⟨ok.cx.hN, ok.cx.nd, ok.cx.hsc, e3, .inl e4, d1, d2, ok.cx.tab.fre, HX, hk, hz, hfl, fun x => ok.cx.hfn x rfl⟩
      exact (pss_hd (pn := pn) su e7).run pins s σ H D I z
    · rw [evS] at p
      cases eb : evSs T.Γ b e with
      | ok f =>
        rw [eb] at p
        exact ⟨fun _ _ _ => False, fun _ _ _ _ _ z => z.elim, e, st, by rw [eb]; cases f <;> exact p⟩
      | no => rw [eb] at p; exact p.elim
      | exc k =>
        rw [eb] at p
        have p : PostF X.K E H0 H ((hdEv h k).bind fun d => .ok (.rt d)) D := p
        cases ed : hdEv h k with
        | no => rw [ed] at p; exact p.elim
        | exc k' => exact absurd ed (hd_ne _ _ _)
        | ok d =>
          rw [ed] at p
          have p : ∀ v H', Same H0 H' → Rp X.K H' v d → D.rt v H' := p
          have hk := hdEv_in ed e7
          obtain ⟨_, x2, _⟩ := HX.xc _ hk
          refine ⟨fun cls dd H' => cls = exV X.K k ∧ dd = none ∧ Same H0 H', fun cls dd σ' H' hl z => ?_, e, st, by rw [eb]; exact fun H' s' => ⟨rfl, rfl, s'⟩⟩
          obtain ⟨rfl, rfl, sm⟩ := z
          refine ⟨true, x2, fun _ a na => ⟨k, rfl, rfl, hk, ?_, ?_, d, ed, fun v H2 s2 r => p v H2 (sm.trans s2) r⟩, fun z => nomatch z⟩
          · exact get_set (by rw [hl, ok.cx.hN]; exact (List.getElem?_eq_some_iff.mp e3).1)
          · rw [List.length_set, hl, ok.cx.hN]
  · cases hx
end
end Cg

set_option maxHeartbeats 1000000
namespace Cg
open PySem PySem.Spec PyProof.Rows L2
/-! ### 21. every statement -/
section
variable {T : Tx}
theorem ss_no {s : S} (h : ∀ sc x, chkS T s sc x = false) : SndS T s := fun {_ _ _} _ _ x k => (by rw [h] at k; cases k)
mutual
theorem sndS : ∀ s : S, SndS T s
  | .asg i e => t_asg i (sndE e)
  | .own i e => t_own i
  | .dnew i t => t_dnew i t
  | .asgT is e => t_asgT is (sndE e)
  | .par is es => t_par is es
  | .dput i k v => t_dput i (sndE k) (sndE v)
  | .app i e => t_app i (sndE e)
  | .ext i e => t_ext i
  | .ret e => t_ret (sndE e)
  | .retN => t_retN
  | .ife c t e => t_ife (sndE c) (sndSs t) (sndSs e)
  | .for_ tg it body => t_for (sndI it) (sndSs body)
  | .whl n c body => t_whl n (sndE c) (sndSs body)
  | .frz i => ss_no fun sc x => by unfold chkS; rfl
  | .rse k => t_rse k
  | .drop e => t_drop (sndE e)
  | .try_ j b h => t_try j h (sndSs b)
  | .stk => t_stk
theorem sndSs : ∀ s : Ss, SndSs T s
  | .nil => t_nil
  | .cons (.frz i) ss => t_frz i (sndSs ss)
  | .cons (.asg i e) ss => t_cons (sndS _) (sndSs ss) (fun _ h => by cases h)
  | .cons (.own i e) ss => t_cons (sndS _) (sndSs ss) (fun _ h => by cases h)
  | .cons (.dnew i t) ss => t_cons (sndS _) (sndSs ss) (fun _ h => by cases h)
  | .cons (.asgT i e) ss => t_cons (sndS _) (sndSs ss) (fun _ h => by cases h)
  | .cons (.par i e) ss => t_cons (sndS _) (sndSs ss) (fun _ h => by cases h)
  | .cons (.dput i k v) ss => t_cons (sndS _) (sndSs ss) (fun _ h => by cases h)
  | .cons (.app i e) ss => t_cons (sndS _) (sndSs ss) (fun _ h => by cases h)
  | .cons (.ext i e) ss => t_cons (sndS _) (sndSs ss) (fun _ h => by cases h)
  | .cons (.ret e) ss => t_cons (sndS _) (sndSs ss) (fun _ h => by cases h)
  | .cons .retN ss => t_cons (sndS _) (sndSs ss) (fun _ h => by cases h)
  | .cons (.ife c t e) ss => t_cons (sndS _) (sndSs ss) (fun _ h => by cases h)
  | .cons (.for_ t i b) ss => t_cons (sndS _) (sndSs ss) (fun _ h => by cases h)
  | .cons (.whl n c b) ss => t_cons (sndS _) (sndSs ss) (fun _ h => by cases h)
  | .cons (.rse k) ss => t_cons (sndS _) (sndSs ss) (fun _ h => by cases h)
  | .cons (.drop e) ss => t_cons (sndS _) (sndSs ss) (fun _ h => by cases h)
  | .cons .stk ss => t_cons (sndS _) (sndSs ss) (fun _ h => by cases h)
  | .cons (.try_ j b h) ss => t_cons (sndS _) (sndSs ss) (fun _ h => by cases h)
end
end
/-! ### 22. a def -/
structure Df where
  e : FnE
  N : List Str
  ps : List Str
  B : Ss
  st : Stmt
def noFn : FnE := ⟨"", 0, 1000000, fun _ => .no⟩
def scC (N ps : List Str) (sc : Scope) : Bool :=
  (match sc.kind with
    | .function => true
    | _ => false) && !sc.isCoroutine && !sc.isGenerator && decide N.Nodup && decide (N.take ps.length = ps) && (ps.all fun x => match sc.names.lookup x with
    | some .local => true
    | some .cell => true
    | _ => false) && (sc.names.all fun y => match y.2 with
    | .free => false
    | _ => true)
theorem scC_ok {N ps : List Str} {sc : Scope} (h : scC N ps sc = true) : FnScope N ps sc := by
  unfold scC at h
  simp only [Bool.and_eq_true, decide_eq_true_eq, Bool.not_eq_true', List.all_eq_true] at h
  obtain ⟨⟨⟨⟨⟨⟨h1, h2⟩, h3⟩, h4⟩, h5⟩, h6⟩, h7⟩ := h
  refine ⟨?_, h2, h3, h4, h5, fun x hx => ?_, fun y hy e => ?_⟩
  · split at h1
    · assumption
    · cases h1
  · have q := h6 x hx
    split at q
    · exact .inl (by assumption)
    · exact .inr (by assumption)
    · cases q
  · have q := h7 y hy
    rw [e] at q
    cases q
section
variable {P : Program} {w : World} {K : PySem.W.Frag} {mg : Str → Option Value} {base : Heap}
theorem startV_get {n : Nat} {ds : List PyData} {i : Nat} {s : Sl} (h : (startV n ds)[i]? = some (some s)) : ∃ d, ds[i]? = some d ∧ s = .v d := by
  unfold startV at h
  by_cases hi : i < ds.length
  · rw [List.getElem?_append_left (by simpa using hi), List.getElem?_map] at h
    cases e : ds[i]? with
    | none => rw [e] at h; cases h
    | some d => rw [e] at h; cases h; exact ⟨d, rfl, rfl⟩
  · rw [List.getElem?_append_right (by simpa using hi), List.getElem?_replicate] at h
    split at h <;> cases h
theorem start_ok {H : Hp} {N : List Str} {vs : List V} {ds : List PyData} (hn : ds.length ≤ N.length) (r : RpAll K H vs ds) : StOk K H (startV N.length ds) (L2.start N vs) H := by
  have hl := r.length
  refine ⟨Same.refl H, ?_, fun i s q => ?_, fun i j s t a q1 q2 o1 => ?_⟩
  · unfold startV L2.start
    simp only [List.length_append, List.length_map, List.length_replicate]
    omega
  · obtain ⟨d, hd, rfl⟩ := startV_get q
    obtain ⟨v, hv, rv⟩ := r.get' hd
    refine ⟨v, ?_, rv⟩
    unfold L2.start
    have hi : i < vs.length := (List.getElem?_eq_some_iff.mp hv).1
    rw [List.getElem?_append_left (by simpa using hi), List.getElem?_map, hv]
    rfl
  · obtain ⟨d, hd, rfl⟩ := startV_get q1
    cases o1
theorem sx_ok {T : Tx} {name : Str} {ps : List Str} {scope : Scope} {f : Addr} {cd : Value} {A : Around} {outer : List Env} {s : Shared} {H : Hp} {E : XK} (S : FnScope T.N ps scope) (tab : TabOk T P w K mg base) (hr : Room T.lv (A.deeper (envOfC name scope s.heap.objs.size f cd))) :
    SxOk T scope (cxOf (L2.CX P w) P w K mg base T.N name scope f cd A outer s H E) E := by
  have tk : Takes (cxOf (L2.CX P w) P w K mg base T.N name scope f cd A outer s H E) (fun cls d _ H => E cls d H) := takes_of rfl rfl rfl rfl
  exact ⟨⟨rfl, S.nd, rfl, rfl, hr, tab, Pas.takes rfl rfl tk, fun _ _ => rfl⟩, passes_of rfl, tk, S.kind, rfl, rfl⟩
theorem def_ok {T : Tx} {g : FnE} {x : Str} {params : Arguments} {body : List Stmt} {scope : Scope} {f : Addr} {fd : FuncData} {ps : List Str} {B : Ss} (F : FunD K x x params body scope [] [] f fd) (S : FnScope T.N ps scope) (tab : TabOk T P w K mg base) (hl : ps.length = g.ar)
    (hc : chkSs T B scope body = true) (hrun : ∀ ds, ds.length = g.ar → g.run ds = .no ∨ runB T.Γ T.N.length B ds = g.run ds) : FnOk P w K mg base (L2.CX P w) (T.lv + 1) f fd ps (spF K g) := by
  refine F.ok S (fun vs H Q E h => h.1.trans hl.symm) (fun cdv A outer s H vs Q E hr h => ⟨rdSs T.Γ K E H B, sndSs B H (sx_ok S tab hr) body hc, ?_⟩)
  obtain ⟨h1, ds, r, p⟩ := h
  have hlen : ds.length = g.ar := by rw [← r.length]; exact h1
  have hn : ds.length ≤ T.N.length := by
    have := congrArg List.length S.pre
    rw [List.length_take] at this
    omega
  refine ⟨startV T.N.length ds, start_ok hn r, ?_⟩
  rcases hrun ds hlen with e | e
  · rw [e] at p; exact p.elim
  · rw [← e] at p
    unfold runB at p
    cases ee : evSs T.Γ B (startV T.N.length ds) with
    | ok fl =>
      rw [ee] at p
      cases fl with
      | nx e' => exact fun σ' H' st' _ => p H' st'.same .non .non
      | rt d => exact fun v H' s r => p H' s v r
    | exc k => rw [ee] at p; exact p
    | no => rw [ee] at p; exact p
/-- what the head tells of a def -/
def Fact (K : PySem.W.Frag) (mg : Str → Option Value) (d : Df) : Prop := ∃ f fd, FunD K d.e.name d.e.name (defArgs d.st) (defBody d.st) (defScope d.st) [] [] f fd ∧ mg d.e.name = some (.ref f) ∧ Binds K fd d.ps []
def chkD (Γ : Tb) (fr : List Str) (cs : List (Str × PyData)) (ex hx : List Str) (d : Df) : Bool :=
  decide (1 ≤ d.e.lvl) && decide (d.ps.length = d.e.ar) && scC d.N d.ps (defScope d.st) && chkSs ⟨Γ, d.N, d.e.lvl - 1, fr, cs, ex, hx⟩ d.B (defScope d.st) (defBody d.st)
def RunOk (Γ : Tb) (d : Df) : Prop := ∀ ds, ds.length = d.e.ar → d.e.run ds = .no ∨ runB Γ d.N.length d.B ds = d.e.run ds
theorem all_ok {Γ : Tb} {dfs : List Df} {fr : List Str} {cs : List (Str × PyData)} {ex hx : List Str} (hΓ : ∀ k, Γ k = ((dfs[k]?).map (·.e)).getD noFn) (facts : ∀ d ∈ dfs, Fact K mg d) (hchk : ∀ d ∈ dfs, chkD Γ fr cs ex hx d = true) (runs : ∀ d ∈ dfs, RunOk Γ d)
    (fre : ∀ x, fr.contains x = true → mg x = none) (cst : ∀ x d e, cs.lookup x = some e → eqD d e = true → ∃ u v, mg x = some u ∧ RelV v u ∧ ∀ H, Rp K H v d)
    (exn : ∀ k, ex.contains k = true → PySem.W.excIn K (He.ga K k) He.veBase "ValueError.__new__" = true ∧ mg k = some (.ref (He.ga K k)) ∧ PySem.W.keepIn K (.ref (He.ga K k)) = true ∧
      PySem.W.subIn K (.ref (He.ga K k)) (.type "BaseException") = some true ∧ PySem.W.typeIn K (.ref (He.ga K k)) = some (.type "type")) (hdx : ∀ N L, hx ≠ [] → HxOk ⟨Γ, N, L, fr, cs, ex, hx⟩ K mg) :
    ∀ L, L < 1000000 → ∀ N, TabOk ⟨Γ, N, L, fr, cs, ex, hx⟩ P w K mg base := by
  intro L
  induction L with
  | zero =>
    intro _ N
    refine ⟨fun k hk => ?_, fre, cst, exn, hdx _ _⟩
    have hk : (Γ k).lvl ≤ 0 := hk
    rw [hΓ k] at hk
    cases e : dfs[k]? with
    | none => rw [e] at hk; exact absurd hk (by decide)
    | some d =>
      rw [e] at hk
      have q := hchk d (List.mem_of_getElem? e)
      unfold chkD at q
      simp only [Bool.and_eq_true, decide_eq_true_eq] at q
      have hk : d.e.lvl ≤ 0 := hk
      omega
  | succ L ih =>
    intro hL N
    have tab := ih (by omega)
    refine ⟨fun k hk => ?_, fre, cst, exn, hdx _ _⟩
    have hk : (Γ k).lvl ≤ L + 1 := hk
    show ∃ f fd ps, FnOk P w K mg base (L2.CX P w) (Γ k).lvl f fd ps (spF K (Γ k)) ∧ mg (Γ k).name = some (.ref f) ∧ PySem.W.keepIn K (.ref f) = true ∧ Binds K fd ps []
    by_cases hk2 : (Γ k).lvl ≤ L
    · exact (tab N).fn k hk2
    · have he : (Γ k).lvl = L + 1 := by omega
      have hg := hΓ k
      cases e : dfs[k]? with
      | none =>
        rw [e] at hg
        rw [hg] at he
        have he : 1000000 = L + 1 := he
        omega
      | some d =>
        rw [e] at hg
        have hg : Γ k = d.e := hg
        have hm := List.mem_of_getElem? e
        obtain ⟨f, fd, F, m, bd⟩ := facts d hm
        have q := hchk d hm
        unfold chkD at q
        simp only [Bool.and_eq_true, decide_eq_true_eq] at q
        obtain ⟨⟨⟨q1, q2⟩, q3⟩, q4⟩ := q
        rw [hg] at he ⊢
        have hlv : d.e.lvl - 1 = L := by omega
        rw [hlv] at q4
        have ok := def_ok (P := P) (w := w) (mg := mg) (base := base) (T := ⟨Γ, d.N, L, fr, cs, ex, hx⟩) (g := d.e) F (scC_ok q3) (tab d.N) q2 q4 (runs d hm)
        rw [he]
        exact ⟨f, fd, d.ps, ok, m, F.kp, bd⟩
/-- the law's own promise -/
def spLaw (K : PySem.W.Frag) : Sp := fun vs H Q _ => ∃ (a : Addr) (ns : List Int), vs = [.ref a] ∧ ns.length ≤ 63 ∧ SqL K H a (ns.map V.int) ∧ ∀ H', Q (.bl true) H'
theorem law_ok {T : Tx} {x p : Str} {params : Arguments} {body : List Stmt} {scope : Scope} {f : Addr} {fd : FuncData} {B : Ss} (F : FunD K x x params body scope [] [] f fd) (S : FnScope T.N [p] scope) (tab : TabOk T P w K mg base)
    (hc : chkSs T B scope body = true) (hrun : ∀ ns : List Int, ns.length ≤ 63 → runB T.Γ T.N.length B [.list (ns.map .int)] = .ok (.bool true)) : FnOk P w K mg base (L2.CX P w) (T.lv + 1) f fd [p] (spLaw K) := by
  have hn : 1 ≤ T.N.length := by
    have := congrArg List.length S.pre
    rw [List.length_take] at this
    have : min 1 T.N.length = 1 := this
    omega
  refine F.ok S (fun vs H Q E h => ?_) (fun cdv A outer s H vs Q E hr h => ⟨fun D σ H => ∃ (a : Addr) (ns : List Int), σ = L2.start T.N [.ref a] ∧ ns.length ≤ 63 ∧ SqL K H a (ns.map V.int) ∧ ∀ H', D.rt (.bl true) H', ⟨fun pins s1 σ H1 D I h => ?_⟩, ?_⟩)
  · obtain ⟨a, ns, rfl, _⟩ := h
    rfl
  · obtain ⟨a, ns, rfl, few, hS, q⟩ := h
    have go : ∀ H2, FzL K H2 a (ns.map V.int) → rdSs T.Γ K E H2 B D (L2.start T.N [.ref a]) H2 := fun H2 hf => by
      refine ⟨startV T.N.length [.list (ns.map .int)], start_ok hn (.cons (.lst hf (rpAll_ints ns)) .nil), ?_⟩
      have e := hrun ns few
      unfold runB at e
      cases ee : evSs T.Γ B (startV T.N.length [.list (ns.map .int)]) with
      | ok fl =>
        rw [ee] at e
        cases fl with
        | nx e' => cases e
        | rt d =>
          cases e
          intro v H' _ r
          cases r
          exact q H'
      | exc k => rw [ee] at e; cases e
      | no => rw [ee] at e; cases e
    rcases hS with (hS | ⟨o, hS⟩) | hS
    · obtain ⟨od, J⟩ := I.lock hS True.intro
      exact (sndSs B (upd H1 a (.frz od (.lst (ns.map V.int)))) (sx_ok S tab hr) body hc).run pins s1 _ _ D J (go _ (.inl ⟨od, upd_same⟩))
    · exact (sndSs B H1 (sx_ok S tab hr) body hc).run pins s1 _ _ D I (go _ (.inl ⟨o, hS⟩))
    · exact (sndSs B H1 (sx_ok S tab hr) body hc).run pins s1 _ _ D I (go _ (.inr hS))
  · obtain ⟨a, ns, rfl, few, hS, q⟩ := h
    exact ⟨a, ns, rfl, few, hS, q⟩
end
end Cg

set_option maxHeartbeats 2000000
namespace Cg
open PySem PySem.Spec PyProof.Rows L2
/-- a law's end, for defs that may raise: what lies behind a call depends on the world too -/
theorem walkX {l : PySem.W.OpenLaw} {k : Nat} {q : Program} {loose : List Str} {XP : (Str → Option Value) → Heap → Prop} {YP : World → Heap → Prop} {d : DefRec} {x : Str} (hn : l.most = some 63) (hdf : d.params.defaults = []) (hr : Room k callerA)
    (F : ∀ (w : World) (mg : Str → Option Value) (fa : Addr) (h : Heap), YP w h → h.Ns mainGlobals mg → mg d.name = some (.ref fa) → ∃ (K : PySem.W.Frag) (fd : FuncData), K.In h ∧
      (∀ (s : Shared) (u : Value), BindsTo s fd ⟨[u], []⟩ [(x, u)]) ∧ ∀ base : Heap, K.In base → base.Ns mainGlobals mg → FnOk l.prog w K mg base (L2.CX l.prog w) k fa fd [x] (spLaw K)) :
    PySem.W.WalkO q loose XP YP l.row.toRowW d [] (fun f vs => PySem.call f vs) := by
  have h63 : 63 ≤ sizeLine := by decide
  refine Att.attach_call hn hdf (fun w s₀ s₁ mg mb fa o pm cd doc a vs ns G Y ho hd hcd hmg hobj hints hlen hg => ?_)
  obtain ⟨K, fd, KX, hb, hF⟩ := F w mg fa _ Y G.T.g hmg
  refine law_call KX G.T.g G.T.b G.T.builtins G.T.nolimit hg hobj hints (Nat.le_trans hlen h63) hr hF hb ?_ ?_
  · exact fun H hO hS => ⟨a, ns, rfl, hlen, hS, fun _ => rfl⟩
  · intro H e s' z
    obtain ⟨_, _, _, _, _, _, _, _, _, _, _, _, z⟩ := z
    exact z
/-! ### 22a. the head with what the except suites lean on -/
abbrev AlX : Type := Bool × He.AlD
def obsX (n : Nat) (fa : List He.Fa) (fn : List He.DefD) (xb : PySem.W.Frag → Bool) (g : Addr → Option Obj) : AlX := (xb (He.frG g (He.asD g n)), He.obsD fa fn (He.frG g (He.asD g n)))
def hookX (n : Nat) (fa : List He.Fa) (fn : List He.DefD) (xb : PySem.W.Frag → Bool) : PySem.W.Hook where
  α := AlX
  obs := fun s => obsX n fa fn xb s.heap.get?
  val := fun _ => (true, He.valD fn)
  says := fun _ h => ∃ K : PySem.W.Frag, K.In h ∧ He.SaysD fa fn K ∧ xb K = true
  of := fun _ _ e => ⟨_, He.frG_in, congrArg (fun z : AlX => z.2) e, congrArg (fun z : AlX => z.1) e⟩
  keeps := fun _ _ _ ⟨K, hK, c, d⟩ k => ⟨K, PySem.W.Frag.In.keeps hK k, c, d⟩
theorem obsX_eq {n : Nat} {fa : List He.Fa} {fn : List He.DefD} {xb : PySem.W.Frag → Bool} {g : Addr → Option Obj} {s : Shared} (h : ∀ a, g a = s.heap.get? a) : obsX n fa fn xb g = (hookX n fa fn xb).obs s := by
  have e : g = s.heap.get? := funext h
  rw [e] <;> rfl
/-- what is asked of each exception class, and of each two -/
def hxB1 (K : PySem.W.Frag) (k : Str) : Bool :=
  He.eqO (PySem.W.findIn K (.ref (He.ga K k)) "__getattribute__") (some (some (.builtin "BaseException.__getattribute__"))) &&
  He.eqO (PySem.W.findIn K (.ref (He.ga K k)) "__getattr__") (some none) &&
  decide (PySem.W.subIn K (.ref (He.ga K k)) (.type "BaseException") = some true) &&
  PySem.W.hasDictIn K (He.ga K k) &&
  He.eqO (PySem.W.findIn K (.ref (He.ga K k)) "__class__") (some (some (.builtin "object.__class__"))) &&
  decide (PySem.W.mroIn K (He.ga K k) (.type "object") = some true) &&
  decide (PySem.W.exmOne K (.ref (He.ga K k)) (.ref (He.ga K "GearError")) = some true) &&
  He.eqO (PySem.W.nsIn K mainGlobals k) (some (some (.ref (He.ga K k))))
def hxB (hx : List Str) (K : PySem.W.Frag) : Bool :=
  He.eqO (PySem.W.specialIn K (.builtin "object.__class__") "__get__") (some (some (.builtin "getset_descriptor.__get__"))) &&
  decide (PySem.W.takesIn K (.builtin "object.__class__") = some true) &&
  He.eqO (PySem.W.nsIn K mainGlobals "GearError") (some (some (.ref (He.ga K "GearError")))) &&
  (hx.all fun k => hxB1 K k) &&
  (hx.all fun k => hx.all fun k' => decide (PySem.W.kitOne K (.ref (He.ga K k)) (.ref (He.ga K k')) = some (decide (k' = k))))
theorem hxB_ok {T : Tx} {K : PySem.W.Frag} {mg : Str → Option Value} {h : Heap} (X : K.In h) (G : h.Ns mainGlobals mg) (c : hxB T.hx K = true) : HxOk T K mg := by
  unfold hxB at c
  simp only [Bool.and_eq_true, List.all_eq_true, decide_eq_true_eq] at c
  obtain ⟨⟨⟨⟨c1, c2⟩, c3⟩, c4⟩, c5⟩ := c
  refine ⟨PySem.W.mg_of X G (He.eqO_ok c3), fun k hk => ?_, fun k k' hk hk' => c5 k (List.contains_iff_mem.mp hk) k' (List.contains_iff_mem.mp hk')⟩
  have d := c4 k (List.contains_iff_mem.mp hk)
  unfold hxB1 at d
  simp only [Bool.and_eq_true, decide_eq_true_eq] at d
  obtain ⟨⟨⟨⟨⟨⟨⟨d1, d2⟩, d3⟩, d4⟩, d5⟩, d6⟩, d7⟩, d8⟩ := d
  exact ⟨⟨He.eqO_ok d1, He.eqO_ok d2, d3, d4, He.eqO_ok d5, He.eqO_ok c1, c2, d6⟩, d7, PySem.W.mg_of X G (He.eqO_ok d8)⟩
/-! ### 22b. a def by what it is asked -/
open Classical in
/-- the def that answers as P says, and elsewhere nothing -/
noncomputable def mirP (P : List PyData → Res PyData → Prop) : List PyData → Res PyData := fun ds => if h : ∃ r, P ds r then Classical.choose h else .no
theorem mirP_ok {P : List PyData → Res PyData → Prop} {run : List PyData → Res PyData} (h : ∀ ds r, P ds r → run ds = r) (ds : List PyData) : mirP P ds = .no ∨ run ds = mirP P ds := by
  unfold mirP
  split
  · rename_i hx
    exact .inr (h _ _ (Classical.choose_spec hx))
  · exact .inl rfl
theorem mirP_at {P : List PyData → Res PyData → Prop} {run : List PyData → Res PyData} (h : ∀ ds r, P ds r → run ds = r) {ds : List PyData} {r : Res PyData} (p : P ds r) : mirP P ds = r := by
  unfold mirP
  have hx : ∃ r, P ds r := ⟨r, p⟩
  rw [dif_pos hx, ← h _ _ (Classical.choose_spec hx), h _ _ p]
/-- the def of number k answers as P says -/
def At (Γ : Tb) (k : Nat) (P : List PyData → Res PyData → Prop) : Prop := ∀ ds r, P ds r → (Γ k).run ds = r
theorem At.of {Γ : Tb} {k : Nat} {P : List PyData → Res PyData → Prop} {run : List PyData → Res PyData} (e : (Γ k).run = mirP P) (h : ∀ ds r, P ds r → run ds = r) : At Γ k P := fun ds r p => by rw [e]; exact mirP_at h p
end Cg

set_option maxHeartbeats 1000000
namespace Cg
open PySem PySem.Spec PyProof.Rows L2
noncomputable section
/-! ### 23. the evaluator's equations, for simp -/
section
variable (Γ : Tb) (e : Ev)
@[simp] theorem ee_var (i : Nat) : evE Γ (.var i) e = getV e i := by rw [evE]
@[simp] theorem ee_bor (i : Nat) : evE Γ (.bor i) e = peek e i := by rw [evE]
@[simp] theorem ee_int (k : Int) : evE Γ (.int k) e = .ok (.int k) := by rw [evE]
@[simp] theorem ee_str (k : Str) : evE Γ (.str k) e = .ok (.str k) := by rw [evE]
@[simp] theorem ee_bl (k : Bool) : evE Γ (.bl k) e = .ok (.bool k) := by rw [evE]
@[simp] theorem ee_non  : evE Γ (.non) e = .ok .none := by rw [evE]
@[simp] theorem ee_glo (x : Str) (d : PyData) : evE Γ (.glo x d) e = .ok d := by rw [evE]
@[simp] theorem ee_tup (es : Cs) : evE Γ (.tup es) e = (evs Γ es e).bind tupD := by rw [evE]
@[simp] theorem ee_lst (es : Cs) : evE Γ (.lst es) e = (evs Γ es e).bind listD := by rw [evE]
@[simp] theorem ee_rep (es : Cs) (k : Nat) : evE Γ (.rep es k) e = (evs Γ es e).bind (repD k) := by rw [evE]
@[simp] theorem ee_bin (op : Operator) (a b : C) : evE Γ (.bin op a b) e = (evE Γ a e).bind fun x => (evE Γ b e).bind fun y => dBin op x y := by rw [evE]
@[simp] theorem ee_neg (a : C) : evE Γ (.neg a) e = (evE Γ a e).bind fun x => (asI x).bind fun i => .ok (.int (-i)) := by rw [evE]
@[simp] theorem ee_nt (a : C) : evE Γ (.nt a) e = (evE Γ a e).bind fun x => (asB x).bind fun b => .ok (.bool (!b)) := by rw [evE]
@[simp] theorem ee_cmp (op : CmpOp) (a b : C) : evE Γ (.cmp op a b) e = (evE Γ a e).bind fun x => (evE Γ b e).bind fun y => resB (dCmp op x y) := by rw [evE]
@[simp] theorem ee_chn (op op' : CmpOp) (a b c : C) : evE Γ (.chn op op' a b c) e = (evE Γ a e).bind fun x => (evE Γ b e).bind fun y => (dCmp op x y).bind fun k => if k = true then (evE Γ c e).bind fun z => resB (dCmp op' y z) else .ok (.bool false) := by rw [evE]
@[simp] theorem ee_and (a b : C) : evE Γ (.and a b) e = (evE Γ a e).bind fun x => (asB x).bind fun k => if k = true then (evE Γ b e).bind fun y => resB (asB y) else .ok (.bool false) := by rw [evE]
@[simp] theorem ee_or (a b : C) : evE Γ (.or a b) e = (evE Γ a e).bind fun x => (asB x).bind fun k => if k = true then .ok (.bool true) else (evE Γ b e).bind fun y => resB (asB y) := by rw [evE]
@[simp] theorem ee_and1 (a : C) : evE Γ (.and1 a) e = evE Γ a e := by rw [evE]
@[simp] theorem ee_or1 (a : C) : evE Γ (.or1 a) e = evE Γ a e := by rw [evE]
@[simp] theorem ee_ife (c a b : C) : evE Γ (.ife c a b) e = (evE Γ c e).bind fun x => (asB x).bind fun k => if k = true then evE Γ a e else evE Γ b e := by rw [evE]
@[simp] theorem ee_ix (a i : C) : evE Γ (.ix a i) e = (evE Γ a e).bind fun x => (evE Γ i e).bind fun y => dIx x y := by rw [evE]
@[simp] theorem ee_slc (a : C) (lo hi : Op) : evE Γ (.slc a lo hi) e = (evE Γ a e).bind fun x => (evO Γ lo e).bind fun l => (evO Γ hi e).bind fun h => dSlc x l h := by rw [evE]
@[simp] theorem ee_rev (a : C) : evE Γ (.rev a) e = (evE Γ a e).bind dRev := by rw [evE]
@[simp] theorem ee_isi (t : Ty) (a : C) : evE Γ (.isi t a) e = (evE Γ a e).bind fun x => dIsi t x := by rw [evE]
@[simp] theorem ee_call (k : Nat) (es : Cs) : evE Γ (.call k es) e = (evs Γ es e).bind fun ds => (Γ k).run ds := by rw [evE]
@[simp] theorem ee_blt (f : Bi) (es : Cs) : evE Γ (.blt f es) e = (evs Γ es e).bind fun ds => dBlt f ds := by rw [evE]
@[simp] theorem ee_inr (a n : C) : evE Γ (.inr a n) e = (evE Γ a e).bind fun x => (asI x).bind fun i => (evE Γ n e).bind fun y => (asI y).bind fun j => .ok (.bool (decide (0 ≤ i ∧ i < j))) := by rw [evE]; rfl
@[simp] theorem ee_sset (a : C) : evE Γ (.sset a) e = (evE Γ a e).bind dSset := by rw [evE]
@[simp] theorem ee_stk  : evE Γ (.stk) e = .no := by rw [evE]
@[simp] theorem ee_rgL (t : Bool) (it : It') : evE Γ (.rgL t it) e = (evI Γ it e).bind fun xs => if xs.length ≤ 16777216 then .ok (if t = true then .tuple xs else .list xs) else .no := by rw [evE]
@[simp] theorem ee_mth (o a : C) (m : Str) : evE Γ (.mth o m a) e = (evE Γ o e).bind fun x => (mthK m x).bind fun _ => (evE Γ a e).bind fun y => dMth m x [y] := by rw [evE]
@[simp] theorem ee_lc (elt : C) (tg : Tg) (it : It') (ws : List (Str × Nat)) : evE Γ (.lc elt tg it ws) e = (evI Γ it e).bind fun xs => (lcR xs.length (mapR (fun x => (bindT tg x (wipeV e (ws.map (·.2)))).bind fun e' => evE Γ elt e') xs)).bind listD := by rw [evE]
@[simp] theorem ee_lcf (elt : C) (tg : Tg) (it : It') (c : C) (ws : List (Str × Nat)) : evE Γ (.lcf elt tg it c ws) e = (evI Γ it e).bind fun xs => (lcR xs.length (filR (fun x => (bindT tg x (wipeV e (ws.map (·.2)))).bind fun e' => (evE Γ c e').bind asB) (fun x => (bindT tg x (wipeV e (ws.map (·.2)))).bind fun e' => evE Γ elt e') xs)).bind listD := by rw [evE]
@[simp] theorem ee_lc2 (elt : C) (tg : Tg) (it : It') (tg' : Tg) (it' : It') (ws : List (Str × Nat)) (ws' : List Nat) : evE Γ (.lc2 elt tg it tg' it' ws ws') e = (evI Γ it e).bind fun xs => (flatR (fun x => (bindT tg x (wipeV e (ws.map (·.2)))).bind fun e' => (evI Γ it' e').bind fun ys => mapR (fun y => (bindT tg' y (wipeV e' ws')).bind fun e'' => evE Γ elt e'') ys) xs).bind listD := by rw [evE]
@[simp] theorem ee_cal (ks : List Nat) (i : C) (es : Cs) : evE Γ (.cal ks i es) e = (evE Γ i e).bind fun x => (asI x).bind fun j => match atI ks j with
    | some k => (evs Γ es e).bind fun ds => (Γ k).run ds
    | none => .no := by rw [evE]; try rfl
@[simp] theorem es_nil : evs Γ .nil e = .ok [] := by rw [evs]
@[simp] theorem es_cons (c : C) (cs : Cs) : evs Γ (.cons c cs) e = (evE Γ c e).bind fun x => (evs Γ cs e).bind fun xs => .ok (x :: xs) := by rw [evs]
@[simp] theorem eo_none : evO Γ .none e = .ok none := by rw [evO]
@[simp] theorem eo_some (c : C) : evO Γ (.some c) e = (evE Γ c e).bind fun x => (asI x).bind fun i => .ok (some i) := by rw [evO]
@[simp] theorem ei_val (c : C) : evI Γ (.val c) e = (evE Γ c e).bind itemsOf := by rw [evI]
@[simp] theorem ei_rng1 (a : C) : evI Γ (.rng1 a) e = (evE Γ a e).bind fun x => (asI x).bind fun j => if small62 j = true then .ok (rangeD 0 j) else .no := by rw [evI]
@[simp] theorem ei_rng2 (a b : C) : evI Γ (.rng2 a b) e = (evE Γ a e).bind fun x => (evE Γ b e).bind fun y => (asI x).bind fun i => (asI y).bind fun j => if small62 i = true ∧ small62 j = true then .ok (rangeD i j) else .no := by rw [evI]
@[simp] theorem ei_enu (a : C) : evI Γ (.enu a) e = (evE Γ a e).bind fun x => match x with
    | .list xs => .ok (enumD xs)
    | _ => .no := by rw [evI]; try rfl
@[simp] theorem ei_zip (a b : C) : evI Γ (.zip a b) e = (evE Γ a e).bind fun x => (evE Γ b e).bind fun y => match x, y with
    | .list xs, .list ys => .ok (zipD xs ys)
    | .tuple xs, .tuple ys => .ok (zipD xs ys)
    | _, _ => .no := by rw [evI]; try rfl
@[simp] theorem ei_zip1 (a b : C) : evI Γ (.zip1 a b) e = (evE Γ a e).bind fun x => (evE Γ b e).bind fun y => match x, y with
    | .list xs, .list ys => .ok (zipD xs ys)
    | _, _ => .no := by rw [evI]; try rfl
@[simp] theorem tt_nil : evSs Γ .nil e = .ok (.nx e) := by rw [evSs]
/-- behind a statement -/
def thenS (Γ : Tb) (r : Res Fl) (ss : Ss) : Res Fl := r.bind fun r => match r with
  | .nx e' => evSs Γ ss e'
  | .rt d => .ok (.rt d)
@[simp] theorem thenS_nx (e' : Ev) (ss : Ss) : thenS Γ (.ok (.nx e')) ss = evSs Γ ss e' := rfl
@[simp] theorem thenS_rt (d : PyData) (ss : Ss) : thenS Γ (.ok (.rt d)) ss = .ok (.rt d) := rfl
@[simp] theorem thenS_exc (k : Str) (ss : Ss) : thenS Γ (.exc k) ss = .exc k := rfl
@[simp] theorem thenS_no (ss : Ss) : thenS Γ .no ss = .no := rfl
@[simp] theorem tt_cons (s : S) (ss : Ss) : evSs Γ (.cons s ss) e = thenS Γ (evS Γ s e) ss := by rw [evSs]; rfl
@[simp] theorem ts_asg (i : Nat) (c : C) : evS Γ (.asg i c) e = (evE Γ c e).bind fun d => .ok (.nx (setV e i d)) := by rw [evS]
/-- a list goes into a slot as an own one -/
def setL (e : Ev) (i : Nat) (d : PyData) : Res Fl := match d with
  | .list ds => .ok (.nx (e.set i (some (.l ds))))
  | _ => .no
@[simp] theorem setL_list (i : Nat) (ds : List PyData) : setL e i (.list ds) = .ok (.nx (e.set i (some (.l ds)))) := rfl
@[simp] theorem ts_own (i : Nat) (c : C) : evS Γ (.own i c) e = (evE Γ c e).bind fun d => setL e i d := by rw [evS]; rfl
@[simp] theorem ts_asgT (is : List Nat) (c : C) : evS Γ (.asgT is c) e = (evE Γ c e).bind fun d => (bindT (.tup is) d e).bind fun e' => .ok (.nx e') := by rw [evS]
@[simp] theorem ts_par (is : List Nat) (cs : List (Bool × C)) : evS Γ (.par is cs) e = (evPar Γ cs e).bind fun ss => (setMany is ss e).bind fun e' => .ok (.nx e') := by rw [evS]
/-- an item goes behind the own list of a slot -/
def appL (e : Ev) (i : Nat) (s : Option (Option Sl)) (r : Res PyData) : Res Fl := match s with
  | some (some (.l ds)) => r.bind fun d => if ds.length < sizeLine then .ok (.nx (e.set i (some (.l (ds ++ [d]))))) else .no
  | _ => .no
@[simp] theorem appL_l (i : Nat) (ds : List PyData) (r : Res PyData) : appL e i (some (some (.l ds))) r = r.bind fun d => if ds.length < sizeLine then .ok (.nx (e.set i (some (.l (ds ++ [d]))))) else .no := rfl
@[simp] theorem ts_app (i : Nat) (c : C) : evS Γ (.app i c) e = appL e i e[i]? (evE Γ c e) := by rw [evS]; rfl
/-- lists behind the own list of a slot -/
def extL (e : Ev) (i : Nat) (s : Option (Option Sl)) (r : Res PyData) : Res Fl := match s with
  | some (some (.l ds)) => r.bind fun d => extD ds d (fun ys => .ok (.nx (e.set i (some (.l ys)))))
  | _ => .no
@[simp] theorem extL_l (i : Nat) (ds xs : List PyData) (h : ds.length + xs.length ≤ sizeLine) : extL e i (some (some (.l ds))) (.ok (.list xs)) = .ok (.nx (e.set i (some (.l (ds ++ xs))))) := by
  simp only [extL, bind_ok, extD, if_pos h]
@[simp] theorem ts_ext (i : Nat) (c : C) : evS Γ (.ext i c) e = extL e i e[i]? (evE Γ c e) := by rw [evS]; rfl
@[simp] theorem ts_dnew (i : Nat) (t : Bool) : evS Γ (.dnew i t) e = .ok (.nx (e.set i (some (.d t [])))) := by rw [evS]
@[simp] theorem ts_stk : evS Γ .stk e = .no := by rw [evS]
/-- a store into the own dict of a slot -/
def dputL (e : Ev) (i : Nat) (s : Option (Option Sl)) (rv rk : Res PyData) : Res Fl := match s with
  | some (some (.d t kvs)) => rv.bind fun y => rk.bind fun x => putD kvs t x y (fun kvs' => .ok (.nx (e.set i (some (.d t kvs')))))
  | _ => .no
@[simp] theorem dputL_d (i : Nat) (t : Bool) (kvs : List (PyData × PyData)) (x y : PyData) (h : kvs.length < 1000 ∧ (if t = true then isKeyT x else isKey x) = true) : dputL e i (some (some (.d t kvs))) (.ok y) (.ok x) = .ok (.nx (e.set i (some (.d t (kvPut kvs x y))))) := by
  simp only [dputL, bind_ok, putD, if_pos h]
@[simp] theorem ts_dput (i : Nat) (k v : C) : evS Γ (.dput i k v) e = dputL e i e[i]? (evE Γ v e) (evE Γ k e) := by rw [evS]; rfl
theorem ts_try (j : Nat) (b : Ss) (h : Hd) : evS Γ (.try_ j b h) e = match evSs Γ b e with
    | .exc k => (hdEv h k).bind fun d => .ok (.rt d)
    | r => r := by rw [evS]; try rfl
theorem try_exc {j : Nat} {b : Ss} {h : Hd} {k : Str} {d : PyData} (hb : evSs Γ b e = .exc k) (hd : hdEv h k = .ok d) : evS Γ (.try_ j b h) e = .ok (.rt d) := by rw [ts_try, hb]; show (hdEv h k).bind _ = _; rw [hd]; rfl
theorem try_ok {j : Nat} {b : Ss} {h : Hd} {f : Fl} (hb : evSs Γ b e = .ok f) : evS Γ (.try_ j b h) e = .ok f := by rw [ts_try, hb]
@[simp] theorem ts_ret (c : C) : evS Γ (.ret c) e = (evE Γ c e).bind fun d => .ok (.rt d) := by rw [evS]
@[simp] theorem ts_retN : evS Γ .retN e = .ok (.rt .none) := by rw [evS]
@[simp] theorem ts_ife (c : C) (t f : Ss) : evS Γ (.ife c t f) e = (evE Γ c e).bind fun d => (asB d).bind fun b => if b = true then evSs Γ t e else evSs Γ f e := by rw [evS]
theorem ts_for (tg : Tg) (it : It') (b : Ss) : evS Γ (.for_ tg it b) e = (evI Γ it e).bind fun xs => forR (fun x e => (bindT tg x e).bind fun e' => evSs Γ b e') xs e := by rw [evS]
theorem ts_whl (n : Nat) (c : C) (b : Ss) : evS Γ (.whl n c b) e = whlR (fun e => (evE Γ c e).bind asB) (fun e => evSs Γ b e) n e := by rw [evS]
/-- a slot's own thing is locked -/
def frzL (e : Ev) (i : Nat) (s : Option (Option Sl)) : Res Fl := match s with
  | some s => (frzS s).bind fun s' => .ok (.nx (e.set i (some s')))
  | none => .no
@[simp] theorem frzL_l (i : Nat) (ds : List PyData) : frzL e i (some (some (.l ds))) = .ok (.nx (e.set i (some (.v (.list ds))))) := rfl
@[simp] theorem frzL_d (i : Nat) (t : Bool) (kvs : List (PyData × PyData)) : frzL e i (some (some (.d t kvs))) = .ok (.nx (e.set i (some (.v (.dict kvs))))) := rfl
@[simp] theorem ts_frz (i : Nat) : evS Γ (.frz i) e = frzL e i e[i]? := by rw [evS]; rfl
@[simp] theorem ts_rse (k : Str) : evS Γ (.rse k) e = .exc k := by rw [evS]
@[simp] theorem ts_drop (c : C) : evS Γ (.drop c) e = (evE Γ c e).bind fun _ => .ok (.nx e) := by rw [evS]
@[simp] theorem ep_nil : evPar Γ [] e = .ok [] := by rw [evPar]
@[simp] theorem ep_f (c : C) (r : List (Bool × C)) : evPar Γ ((false, c) :: r) e = (evE Γ c e).bind fun d => (evPar Γ r e).bind fun ss => .ok (.v d :: ss) := by rw [evPar]; rfl
@[simp] theorem ep_t (c : C) (r : List (Bool × C)) : evPar Γ ((true, c) :: r) e = (evE Γ c e).bind fun d => (ownOf true d).bind fun s => (evPar Γ r e).bind fun ss => .ok (s :: ss) := by rw [evPar]
@[simp] theorem own_d (k v : PyData) : ownOf true (.dict [(k, v)]) = if isKeyT k = true then .ok (.d true [(k, v)]) else .no := rfl
@[simp] theorem own_t (ds : List PyData) : ownOf true (.list ds) = .ok (.l ds) := rfl
@[simp] theorem sm_nil : setMany [] [] e = .ok e := rfl
@[simp] theorem sm_cons (i : Nat) (is : List Nat) (s : Sl) (ss : List Sl) : setMany (i :: is) (s :: ss) e = setMany is ss (e.set i (some s)) := rfl
@[simp] theorem bt_one (i : Nat) (d : PyData) : bindT (.one i) d e = .ok (setV e i d) := by cases d <;> rfl
@[simp] theorem bt_tup (is : List Nat) (ds : List PyData) : bindT (.tup is) (.tuple ds) e = bindMany is ds e := rfl
@[simp] theorem bm_nil : bindMany [] [] e = .ok e := rfl
@[simp] theorem bm_cons (i : Nat) (is : List Nat) (d : PyData) (ds : List PyData) : bindMany (i :: is) (d :: ds) e = bindMany is ds (setV e i d) := rfl
@[simp] theorem wv_nil : wipeV e [] = e := rfl
@[simp] theorem wv_cons (v : Nat) (vs : List Nat) : wipeV e (v :: vs) = (wipeV e vs).set v none := rfl
@[simp] theorem setV_eq (i : Nat) (d : PyData) : setV e i d = e.set i (some (.v d)) := rfl
end
@[simp] theorem resB_ok (b : Bool) : resB (.ok b) = .ok (.bool b) := rfl
@[simp] theorem asB_bool (b : Bool) : asB (.bool b) = .ok b := rfl
@[simp] theorem asI_int (b : Int) : asI (.int b) = .ok b := rfl
theorem whl_step {c : Ev → Res Bool} {f : Ev → Res Fl} {n : Nat} {e e' : Ev} (hc : c e = .ok true) (hf : f e = .ok (.nx e')) : whlR c f (n + 1) e = whlR c f n e' := by
  conv => lhs; unfold whlR
  rw [hc, bind_ok, if_pos rfl, hf]
  rfl
theorem whl_stop {c : Ev → Res Bool} {f : Ev → Res Fl} {n : Nat} {e : Ev} (hc : c e = .ok false) : whlR c f (n + 1) e = .ok (.nx e) := by
  conv => lhs; unfold whlR
  rw [hc, bind_ok, if_neg (by decide)]
/-- a loop whose body always goes on -/
theorem for_inv {f : PyData → Ev → Res Fl} (P : List PyData → Ev → Prop) : ∀ (xs : List PyData) (e : Ev), P xs e → (∀ x r e, P (x :: r) e → ∃ e', f x e = .ok (.nx e') ∧ P r e') → ∃ e', forR f xs e = .ok (.nx e') ∧ P [] e'
  | [], e, h, _ => ⟨e, rfl, h⟩
  | x :: r, e, h, step => by
    obtain ⟨e1, h1, p1⟩ := step x r e h
    obtain ⟨e2, h2, p2⟩ := for_inv P r e1 p1 step
    refine ⟨e2, ?_, p2⟩
    unfold forR
    rw [h1]
    exact h2
@[simp] theorem items_dict (kvs : List (PyData × PyData)) : itemsOf (.dict kvs) = .ok (kvs.map (·.1)) := rfl
@[simp] theorem ln_d (kvs : List (PyData × PyData)) : dBlt .len [.dict kvs] = .ok (.int kvs.length) := rfl
@[simp] theorem items_list (xs : List PyData) : itemsOf (.list xs) = .ok xs := rfl
@[simp] theorem items_tuple (xs : List PyData) : itemsOf (.tuple xs) = .ok xs := rfl
@[simp] theorem bn_add (a b : Int) : dBin .Add (.int a) (.int b) = .ok (.int (a + b)) := rfl
@[simp] theorem bn_sub (a b : Int) : dBin .Sub (.int a) (.int b) = .ok (.int (a - b)) := rfl
@[simp] theorem cm_lt (a b : Int) : dCmp .Lt (.int a) (.int b) = .ok (decide (a < b)) := rfl
@[simp] theorem cm_le (a b : Int) : dCmp .LtE (.int a) (.int b) = .ok (decide (a ≤ b)) := rfl
@[simp] theorem cm_gt (a b : Int) : dCmp .Gt (.int a) (.int b) = .ok (decide (b < a)) := rfl
@[simp] theorem cm_ge (a b : Int) : dCmp .GtE (.int a) (.int b) = .ok (decide (b ≤ a)) := rfl
@[simp] theorem cm_eqI (a b : Int) : dCmp .Eq (.int a) (.int b) = .ok (decide (a = b)) := by
  have h : okD (.int a) = true ∧ okD (.int b) = true := ⟨rfl, rfl⟩
  show (if okD (.int a) = true ∧ okD (.int b) = true then Res.ok (PyData.eqv (.int a) (.int b)) else .no) = _
  rw [if_pos h, eqv_int]
@[simp] theorem cm_neI (a b : Int) : dCmp .NotEq (.int a) (.int b) = .ok (!decide (a = b)) := by
  have h : okD (.int a) = true ∧ okD (.int b) = true := ⟨rfl, rfl⟩
  show (if okD (.int a) = true ∧ okD (.int b) = true then Res.ok (!PyData.eqv (.int a) (.int b)) else .no) = _
  rw [if_pos h, eqv_int]
@[simp] theorem cm_neB (a b : Bool) : dCmp .NotEq (.bool a) (.bool b) = .ok (a != b) := by cases a <;> cases b <;> rfl
theorem bn_mulk (a b : Int) (h : smallI a = true) : dBin .Mult (.int a) (.int b) = .ok (.int (a * b)) := by
  show (if (smallI a || smallI b) = true then _ else _) = _
  rw [h]
  rfl
theorem p64 : (2 : Int) ^ 64 = 18446744073709551616 := by decide +kernel
theorem smallI_few {n : Int} (h0 : -18446744073709551616 < n) (h : n < 18446744073709551616) : smallI n = true := by
  unfold smallI
  refine @decide_eq_true _ (Classical.propDecidable _) ?_
  rw [p64]
  omega
theorem bn_mulr (a b : Int) (h : smallI b = true) : dBin .Mult (.int a) (.int b) = .ok (.int (a * b)) := by
  show (if (smallI a || smallI b) = true then _ else _) = _
  rw [h, Bool.or_true]
  rfl
theorem bn_div (a b : Int) (h : 0 < b ∧ b.natAbs.log2 < 9000) : dBin .FloorDiv (.int a) (.int b) = .ok (.int (a / b)) := by
  show (if _ then _ else _) = _
  rw [if_pos h]
theorem bn_mod (a b : Int) (h : 0 < b) : dBin .Mod (.int a) (.int b) = .ok (.int (a % b)) := by
  show (if _ then _ else _) = _
  rw [if_pos h]
theorem atI_nn {α : Type} {xs : List α} {i : Int} (h0 : 0 ≤ i) : atI xs i = xs[i.toNat]? := by
  unfold atI ixN
  rw [if_pos h0]
  by_cases h : i < (xs.length : Int)
  · rw [if_pos h]
    rfl
  · rw [if_neg h, List.getElem?_eq_none (by omega)]
    rfl
@[simp] theorem ix_t0 (x : PyData) (xs : List PyData) : dIx (.tuple (x :: xs)) (.int 0) = .ok x := by
  unfold dIx
  simp only
  rw [atI_nn (by decide)]
  rfl
@[simp] theorem ix_t1 (x y : PyData) (xs : List PyData) : dIx (.tuple (x :: y :: xs)) (.int 1) = .ok y := by
  unfold dIx
  simp only
  rw [atI_nn (by decide)]
  rfl
@[simp] theorem ln_t (xs : List PyData) : dBlt .len [.tuple xs] = .ok (.int xs.length) := rfl
@[simp] theorem ln_l (xs : List PyData) : dBlt .len [.list xs] = .ok (.int xs.length) := rfl
@[simp] theorem gv0 (d : PyData) (l : Ev) : getV (some (.v d) :: l) 0 = .ok d := rfl
@[simp] theorem pv0 (d : PyData) (l : Ev) : peek (some (.v d) :: l) 0 = .ok d := rfl
@[simp] theorem pl0 (d : List PyData) (l : Ev) : peek (some (.l d) :: l) 0 = .ok (.list d) := rfl
@[simp] theorem pd0 (t : Bool) (d : List (PyData × PyData)) (l : Ev) : peek (some (.d t d) :: l) 0 = .ok (.dict d) := rfl
@[simp] theorem st0 (s t : Option Sl) (l : Ev) : List.set (s :: l) 0 t = t :: l := rfl
@[simp] theorem gt0 (s : Option Sl) (l : Ev) : (s :: l)[0]? = some s := rfl
@[simp] theorem gv1 (a0 : Option Sl) (d : PyData) (l : Ev) : getV (a0 :: some (.v d) :: l) 1 = .ok d := rfl
@[simp] theorem pv1 (a0 : Option Sl) (d : PyData) (l : Ev) : peek (a0 :: some (.v d) :: l) 1 = .ok d := rfl
@[simp] theorem pl1 (a0 : Option Sl) (d : List PyData) (l : Ev) : peek (a0 :: some (.l d) :: l) 1 = .ok (.list d) := rfl
@[simp] theorem pd1 (a0 : Option Sl) (t : Bool) (d : List (PyData × PyData)) (l : Ev) : peek (a0 :: some (.d t d) :: l) 1 = .ok (.dict d) := rfl
@[simp] theorem st1 (a0 : Option Sl) (s t : Option Sl) (l : Ev) : List.set (a0 :: s :: l) 1 t = a0 :: t :: l := rfl
@[simp] theorem gt1 (a0 : Option Sl) (s : Option Sl) (l : Ev) : (a0 :: s :: l)[1]? = some s := rfl
@[simp] theorem gv2 (a0 a1 : Option Sl) (d : PyData) (l : Ev) : getV (a0 :: a1 :: some (.v d) :: l) 2 = .ok d := rfl
@[simp] theorem pv2 (a0 a1 : Option Sl) (d : PyData) (l : Ev) : peek (a0 :: a1 :: some (.v d) :: l) 2 = .ok d := rfl
@[simp] theorem pl2 (a0 a1 : Option Sl) (d : List PyData) (l : Ev) : peek (a0 :: a1 :: some (.l d) :: l) 2 = .ok (.list d) := rfl
@[simp] theorem pd2 (a0 a1 : Option Sl) (t : Bool) (d : List (PyData × PyData)) (l : Ev) : peek (a0 :: a1 :: some (.d t d) :: l) 2 = .ok (.dict d) := rfl
@[simp] theorem st2 (a0 a1 : Option Sl) (s t : Option Sl) (l : Ev) : List.set (a0 :: a1 :: s :: l) 2 t = a0 :: a1 :: t :: l := rfl
@[simp] theorem gt2 (a0 a1 : Option Sl) (s : Option Sl) (l : Ev) : (a0 :: a1 :: s :: l)[2]? = some s := rfl
@[simp] theorem gv3 (a0 a1 a2 : Option Sl) (d : PyData) (l : Ev) : getV (a0 :: a1 :: a2 :: some (.v d) :: l) 3 = .ok d := rfl
@[simp] theorem pv3 (a0 a1 a2 : Option Sl) (d : PyData) (l : Ev) : peek (a0 :: a1 :: a2 :: some (.v d) :: l) 3 = .ok d := rfl
@[simp] theorem pl3 (a0 a1 a2 : Option Sl) (d : List PyData) (l : Ev) : peek (a0 :: a1 :: a2 :: some (.l d) :: l) 3 = .ok (.list d) := rfl
@[simp] theorem pd3 (a0 a1 a2 : Option Sl) (t : Bool) (d : List (PyData × PyData)) (l : Ev) : peek (a0 :: a1 :: a2 :: some (.d t d) :: l) 3 = .ok (.dict d) := rfl
@[simp] theorem st3 (a0 a1 a2 : Option Sl) (s t : Option Sl) (l : Ev) : List.set (a0 :: a1 :: a2 :: s :: l) 3 t = a0 :: a1 :: a2 :: t :: l := rfl
@[simp] theorem gt3 (a0 a1 a2 : Option Sl) (s : Option Sl) (l : Ev) : (a0 :: a1 :: a2 :: s :: l)[3]? = some s := rfl
@[simp] theorem gv4 (a0 a1 a2 a3 : Option Sl) (d : PyData) (l : Ev) : getV (a0 :: a1 :: a2 :: a3 :: some (.v d) :: l) 4 = .ok d := rfl
@[simp] theorem pv4 (a0 a1 a2 a3 : Option Sl) (d : PyData) (l : Ev) : peek (a0 :: a1 :: a2 :: a3 :: some (.v d) :: l) 4 = .ok d := rfl
@[simp] theorem pl4 (a0 a1 a2 a3 : Option Sl) (d : List PyData) (l : Ev) : peek (a0 :: a1 :: a2 :: a3 :: some (.l d) :: l) 4 = .ok (.list d) := rfl
@[simp] theorem pd4 (a0 a1 a2 a3 : Option Sl) (t : Bool) (d : List (PyData × PyData)) (l : Ev) : peek (a0 :: a1 :: a2 :: a3 :: some (.d t d) :: l) 4 = .ok (.dict d) := rfl
@[simp] theorem st4 (a0 a1 a2 a3 : Option Sl) (s t : Option Sl) (l : Ev) : List.set (a0 :: a1 :: a2 :: a3 :: s :: l) 4 t = a0 :: a1 :: a2 :: a3 :: t :: l := rfl
@[simp] theorem gt4 (a0 a1 a2 a3 : Option Sl) (s : Option Sl) (l : Ev) : (a0 :: a1 :: a2 :: a3 :: s :: l)[4]? = some s := rfl
@[simp] theorem gv5 (a0 a1 a2 a3 a4 : Option Sl) (d : PyData) (l : Ev) : getV (a0 :: a1 :: a2 :: a3 :: a4 :: some (.v d) :: l) 5 = .ok d := rfl
@[simp] theorem pv5 (a0 a1 a2 a3 a4 : Option Sl) (d : PyData) (l : Ev) : peek (a0 :: a1 :: a2 :: a3 :: a4 :: some (.v d) :: l) 5 = .ok d := rfl
@[simp] theorem pl5 (a0 a1 a2 a3 a4 : Option Sl) (d : List PyData) (l : Ev) : peek (a0 :: a1 :: a2 :: a3 :: a4 :: some (.l d) :: l) 5 = .ok (.list d) := rfl
@[simp] theorem pd5 (a0 a1 a2 a3 a4 : Option Sl) (t : Bool) (d : List (PyData × PyData)) (l : Ev) : peek (a0 :: a1 :: a2 :: a3 :: a4 :: some (.d t d) :: l) 5 = .ok (.dict d) := rfl
@[simp] theorem st5 (a0 a1 a2 a3 a4 : Option Sl) (s t : Option Sl) (l : Ev) : List.set (a0 :: a1 :: a2 :: a3 :: a4 :: s :: l) 5 t = a0 :: a1 :: a2 :: a3 :: a4 :: t :: l := rfl
@[simp] theorem gt5 (a0 a1 a2 a3 a4 : Option Sl) (s : Option Sl) (l : Ev) : (a0 :: a1 :: a2 :: a3 :: a4 :: s :: l)[5]? = some s := rfl
@[simp] theorem gv6 (a0 a1 a2 a3 a4 a5 : Option Sl) (d : PyData) (l : Ev) : getV (a0 :: a1 :: a2 :: a3 :: a4 :: a5 :: some (.v d) :: l) 6 = .ok d := rfl
@[simp] theorem pv6 (a0 a1 a2 a3 a4 a5 : Option Sl) (d : PyData) (l : Ev) : peek (a0 :: a1 :: a2 :: a3 :: a4 :: a5 :: some (.v d) :: l) 6 = .ok d := rfl
@[simp] theorem pl6 (a0 a1 a2 a3 a4 a5 : Option Sl) (d : List PyData) (l : Ev) : peek (a0 :: a1 :: a2 :: a3 :: a4 :: a5 :: some (.l d) :: l) 6 = .ok (.list d) := rfl
@[simp] theorem pd6 (a0 a1 a2 a3 a4 a5 : Option Sl) (t : Bool) (d : List (PyData × PyData)) (l : Ev) : peek (a0 :: a1 :: a2 :: a3 :: a4 :: a5 :: some (.d t d) :: l) 6 = .ok (.dict d) := rfl
@[simp] theorem st6 (a0 a1 a2 a3 a4 a5 : Option Sl) (s t : Option Sl) (l : Ev) : List.set (a0 :: a1 :: a2 :: a3 :: a4 :: a5 :: s :: l) 6 t = a0 :: a1 :: a2 :: a3 :: a4 :: a5 :: t :: l := rfl
@[simp] theorem gt6 (a0 a1 a2 a3 a4 a5 : Option Sl) (s : Option Sl) (l : Ev) : (a0 :: a1 :: a2 :: a3 :: a4 :: a5 :: s :: l)[6]? = some s := rfl
@[simp] theorem gv7 (a0 a1 a2 a3 a4 a5 a6 : Option Sl) (d : PyData) (l : Ev) : getV (a0 :: a1 :: a2 :: a3 :: a4 :: a5 :: a6 :: some (.v d) :: l) 7 = .ok d := rfl
@[simp] theorem pv7 (a0 a1 a2 a3 a4 a5 a6 : Option Sl) (d : PyData) (l : Ev) : peek (a0 :: a1 :: a2 :: a3 :: a4 :: a5 :: a6 :: some (.v d) :: l) 7 = .ok d := rfl
@[simp] theorem pl7 (a0 a1 a2 a3 a4 a5 a6 : Option Sl) (d : List PyData) (l : Ev) : peek (a0 :: a1 :: a2 :: a3 :: a4 :: a5 :: a6 :: some (.l d) :: l) 7 = .ok (.list d) := rfl
@[simp] theorem pd7 (a0 a1 a2 a3 a4 a5 a6 : Option Sl) (t : Bool) (d : List (PyData × PyData)) (l : Ev) : peek (a0 :: a1 :: a2 :: a3 :: a4 :: a5 :: a6 :: some (.d t d) :: l) 7 = .ok (.dict d) := rfl
@[simp] theorem st7 (a0 a1 a2 a3 a4 a5 a6 : Option Sl) (s t : Option Sl) (l : Ev) : List.set (a0 :: a1 :: a2 :: a3 :: a4 :: a5 :: a6 :: s :: l) 7 t = a0 :: a1 :: a2 :: a3 :: a4 :: a5 :: a6 :: t :: l := rfl
@[simp] theorem gt7 (a0 a1 a2 a3 a4 a5 a6 : Option Sl) (s : Option Sl) (l : Ev) : (a0 :: a1 :: a2 :: a3 :: a4 :: a5 :: a6 :: s :: l)[7]? = some s := rfl
@[simp] theorem gv8 (a0 a1 a2 a3 a4 a5 a6 a7 : Option Sl) (d : PyData) (l : Ev) : getV (a0 :: a1 :: a2 :: a3 :: a4 :: a5 :: a6 :: a7 :: some (.v d) :: l) 8 = .ok d := rfl
@[simp] theorem pv8 (a0 a1 a2 a3 a4 a5 a6 a7 : Option Sl) (d : PyData) (l : Ev) : peek (a0 :: a1 :: a2 :: a3 :: a4 :: a5 :: a6 :: a7 :: some (.v d) :: l) 8 = .ok d := rfl
@[simp] theorem pl8 (a0 a1 a2 a3 a4 a5 a6 a7 : Option Sl) (d : List PyData) (l : Ev) : peek (a0 :: a1 :: a2 :: a3 :: a4 :: a5 :: a6 :: a7 :: some (.l d) :: l) 8 = .ok (.list d) := rfl
@[simp] theorem pd8 (a0 a1 a2 a3 a4 a5 a6 a7 : Option Sl) (t : Bool) (d : List (PyData × PyData)) (l : Ev) : peek (a0 :: a1 :: a2 :: a3 :: a4 :: a5 :: a6 :: a7 :: some (.d t d) :: l) 8 = .ok (.dict d) := rfl
@[simp] theorem st8 (a0 a1 a2 a3 a4 a5 a6 a7 : Option Sl) (s t : Option Sl) (l : Ev) : List.set (a0 :: a1 :: a2 :: a3 :: a4 :: a5 :: a6 :: a7 :: s :: l) 8 t = a0 :: a1 :: a2 :: a3 :: a4 :: a5 :: a6 :: a7 :: t :: l := rfl
@[simp] theorem gt8 (a0 a1 a2 a3 a4 a5 a6 a7 : Option Sl) (s : Option Sl) (l : Ev) : (a0 :: a1 :: a2 :: a3 :: a4 :: a5 :: a6 :: a7 :: s :: l)[8]? = some s := rfl
@[simp] theorem gv9 (a0 a1 a2 a3 a4 a5 a6 a7 a8 : Option Sl) (d : PyData) (l : Ev) : getV (a0 :: a1 :: a2 :: a3 :: a4 :: a5 :: a6 :: a7 :: a8 :: some (.v d) :: l) 9 = .ok d := rfl
@[simp] theorem pv9 (a0 a1 a2 a3 a4 a5 a6 a7 a8 : Option Sl) (d : PyData) (l : Ev) : peek (a0 :: a1 :: a2 :: a3 :: a4 :: a5 :: a6 :: a7 :: a8 :: some (.v d) :: l) 9 = .ok d := rfl
@[simp] theorem pl9 (a0 a1 a2 a3 a4 a5 a6 a7 a8 : Option Sl) (d : List PyData) (l : Ev) : peek (a0 :: a1 :: a2 :: a3 :: a4 :: a5 :: a6 :: a7 :: a8 :: some (.l d) :: l) 9 = .ok (.list d) := rfl
@[simp] theorem pd9 (a0 a1 a2 a3 a4 a5 a6 a7 a8 : Option Sl) (t : Bool) (d : List (PyData × PyData)) (l : Ev) : peek (a0 :: a1 :: a2 :: a3 :: a4 :: a5 :: a6 :: a7 :: a8 :: some (.d t d) :: l) 9 = .ok (.dict d) := rfl
@[simp] theorem st9 (a0 a1 a2 a3 a4 a5 a6 a7 a8 : Option Sl) (s t : Option Sl) (l : Ev) : List.set (a0 :: a1 :: a2 :: a3 :: a4 :: a5 :: a6 :: a7 :: a8 :: s :: l) 9 t = a0 :: a1 :: a2 :: a3 :: a4 :: a5 :: a6 :: a7 :: a8 :: t :: l := rfl
@[simp] theorem gt9 (a0 a1 a2 a3 a4 a5 a6 a7 a8 : Option Sl) (s : Option Sl) (l : Ev) : (a0 :: a1 :: a2 :: a3 :: a4 :: a5 :: a6 :: a7 :: a8 :: s :: l)[9]? = some s := rfl
@[simp] theorem gv10 (a0 a1 a2 a3 a4 a5 a6 a7 a8 a9 : Option Sl) (d : PyData) (l : Ev) : getV (a0 :: a1 :: a2 :: a3 :: a4 :: a5 :: a6 :: a7 :: a8 :: a9 :: some (.v d) :: l) 10 = .ok d := rfl
@[simp] theorem pv10 (a0 a1 a2 a3 a4 a5 a6 a7 a8 a9 : Option Sl) (d : PyData) (l : Ev) : peek (a0 :: a1 :: a2 :: a3 :: a4 :: a5 :: a6 :: a7 :: a8 :: a9 :: some (.v d) :: l) 10 = .ok d := rfl
@[simp] theorem pl10 (a0 a1 a2 a3 a4 a5 a6 a7 a8 a9 : Option Sl) (d : List PyData) (l : Ev) : peek (a0 :: a1 :: a2 :: a3 :: a4 :: a5 :: a6 :: a7 :: a8 :: a9 :: some (.l d) :: l) 10 = .ok (.list d) := rfl
@[simp] theorem pd10 (a0 a1 a2 a3 a4 a5 a6 a7 a8 a9 : Option Sl) (t : Bool) (d : List (PyData × PyData)) (l : Ev) : peek (a0 :: a1 :: a2 :: a3 :: a4 :: a5 :: a6 :: a7 :: a8 :: a9 :: some (.d t d) :: l) 10 = .ok (.dict d) := rfl
@[simp] theorem st10 (a0 a1 a2 a3 a4 a5 a6 a7 a8 a9 : Option Sl) (s t : Option Sl) (l : Ev) : List.set (a0 :: a1 :: a2 :: a3 :: a4 :: a5 :: a6 :: a7 :: a8 :: a9 :: s :: l) 10 t = a0 :: a1 :: a2 :: a3 :: a4 :: a5 :: a6 :: a7 :: a8 :: a9 :: t :: l := rfl
@[simp] theorem gt10 (a0 a1 a2 a3 a4 a5 a6 a7 a8 a9 : Option Sl) (s : Option Sl) (l : Ev) : (a0 :: a1 :: a2 :: a3 :: a4 :: a5 :: a6 :: a7 :: a8 :: a9 :: s :: l)[10]? = some s := rfl
@[simp] theorem gv11 (a0 a1 a2 a3 a4 a5 a6 a7 a8 a9 a10 : Option Sl) (d : PyData) (l : Ev) : getV (a0 :: a1 :: a2 :: a3 :: a4 :: a5 :: a6 :: a7 :: a8 :: a9 :: a10 :: some (.v d) :: l) 11 = .ok d := rfl
@[simp] theorem pv11 (a0 a1 a2 a3 a4 a5 a6 a7 a8 a9 a10 : Option Sl) (d : PyData) (l : Ev) : peek (a0 :: a1 :: a2 :: a3 :: a4 :: a5 :: a6 :: a7 :: a8 :: a9 :: a10 :: some (.v d) :: l) 11 = .ok d := rfl
@[simp] theorem pl11 (a0 a1 a2 a3 a4 a5 a6 a7 a8 a9 a10 : Option Sl) (d : List PyData) (l : Ev) : peek (a0 :: a1 :: a2 :: a3 :: a4 :: a5 :: a6 :: a7 :: a8 :: a9 :: a10 :: some (.l d) :: l) 11 = .ok (.list d) := rfl
@[simp] theorem pd11 (a0 a1 a2 a3 a4 a5 a6 a7 a8 a9 a10 : Option Sl) (t : Bool) (d : List (PyData × PyData)) (l : Ev) : peek (a0 :: a1 :: a2 :: a3 :: a4 :: a5 :: a6 :: a7 :: a8 :: a9 :: a10 :: some (.d t d) :: l) 11 = .ok (.dict d) := rfl
@[simp] theorem st11 (a0 a1 a2 a3 a4 a5 a6 a7 a8 a9 a10 : Option Sl) (s t : Option Sl) (l : Ev) : List.set (a0 :: a1 :: a2 :: a3 :: a4 :: a5 :: a6 :: a7 :: a8 :: a9 :: a10 :: s :: l) 11 t = a0 :: a1 :: a2 :: a3 :: a4 :: a5 :: a6 :: a7 :: a8 :: a9 :: a10 :: t :: l := rfl
@[simp] theorem gt11 (a0 a1 a2 a3 a4 a5 a6 a7 a8 a9 a10 : Option Sl) (s : Option Sl) (l : Ev) : (a0 :: a1 :: a2 :: a3 :: a4 :: a5 :: a6 :: a7 :: a8 :: a9 :: a10 :: s :: l)[11]? = some s := rfl
@[simp] theorem gv12 (a0 a1 a2 a3 a4 a5 a6 a7 a8 a9 a10 a11 : Option Sl) (d : PyData) (l : Ev) : getV (a0 :: a1 :: a2 :: a3 :: a4 :: a5 :: a6 :: a7 :: a8 :: a9 :: a10 :: a11 :: some (.v d) :: l) 12 = .ok d := rfl
@[simp] theorem pv12 (a0 a1 a2 a3 a4 a5 a6 a7 a8 a9 a10 a11 : Option Sl) (d : PyData) (l : Ev) : peek (a0 :: a1 :: a2 :: a3 :: a4 :: a5 :: a6 :: a7 :: a8 :: a9 :: a10 :: a11 :: some (.v d) :: l) 12 = .ok d := rfl
@[simp] theorem pl12 (a0 a1 a2 a3 a4 a5 a6 a7 a8 a9 a10 a11 : Option Sl) (d : List PyData) (l : Ev) : peek (a0 :: a1 :: a2 :: a3 :: a4 :: a5 :: a6 :: a7 :: a8 :: a9 :: a10 :: a11 :: some (.l d) :: l) 12 = .ok (.list d) := rfl
@[simp] theorem pd12 (a0 a1 a2 a3 a4 a5 a6 a7 a8 a9 a10 a11 : Option Sl) (t : Bool) (d : List (PyData × PyData)) (l : Ev) : peek (a0 :: a1 :: a2 :: a3 :: a4 :: a5 :: a6 :: a7 :: a8 :: a9 :: a10 :: a11 :: some (.d t d) :: l) 12 = .ok (.dict d) := rfl
@[simp] theorem st12 (a0 a1 a2 a3 a4 a5 a6 a7 a8 a9 a10 a11 : Option Sl) (s t : Option Sl) (l : Ev) : List.set (a0 :: a1 :: a2 :: a3 :: a4 :: a5 :: a6 :: a7 :: a8 :: a9 :: a10 :: a11 :: s :: l) 12 t = a0 :: a1 :: a2 :: a3 :: a4 :: a5 :: a6 :: a7 :: a8 :: a9 :: a10 :: a11 :: t :: l := rfl
@[simp] theorem gt12 (a0 a1 a2 a3 a4 a5 a6 a7 a8 a9 a10 a11 : Option Sl) (s : Option Sl) (l : Ev) : (a0 :: a1 :: a2 :: a3 :: a4 :: a5 :: a6 :: a7 :: a8 :: a9 :: a10 :: a11 :: s :: l)[12]? = some s := rfl
@[simp] theorem gv13 (a0 a1 a2 a3 a4 a5 a6 a7 a8 a9 a10 a11 a12 : Option Sl) (d : PyData) (l : Ev) : getV (a0 :: a1 :: a2 :: a3 :: a4 :: a5 :: a6 :: a7 :: a8 :: a9 :: a10 :: a11 :: a12 :: some (.v d) :: l) 13 = .ok d := rfl
@[simp] theorem pv13 (a0 a1 a2 a3 a4 a5 a6 a7 a8 a9 a10 a11 a12 : Option Sl) (d : PyData) (l : Ev) : peek (a0 :: a1 :: a2 :: a3 :: a4 :: a5 :: a6 :: a7 :: a8 :: a9 :: a10 :: a11 :: a12 :: some (.v d) :: l) 13 = .ok d := rfl
@[simp] theorem pl13 (a0 a1 a2 a3 a4 a5 a6 a7 a8 a9 a10 a11 a12 : Option Sl) (d : List PyData) (l : Ev) : peek (a0 :: a1 :: a2 :: a3 :: a4 :: a5 :: a6 :: a7 :: a8 :: a9 :: a10 :: a11 :: a12 :: some (.l d) :: l) 13 = .ok (.list d) := rfl
@[simp] theorem pd13 (a0 a1 a2 a3 a4 a5 a6 a7 a8 a9 a10 a11 a12 : Option Sl) (t : Bool) (d : List (PyData × PyData)) (l : Ev) : peek (a0 :: a1 :: a2 :: a3 :: a4 :: a5 :: a6 :: a7 :: a8 :: a9 :: a10 :: a11 :: a12 :: some (.d t d) :: l) 13 = .ok (.dict d) := rfl
@[simp] theorem st13 (a0 a1 a2 a3 a4 a5 a6 a7 a8 a9 a10 a11 a12 : Option Sl) (s t : Option Sl) (l : Ev) : List.set (a0 :: a1 :: a2 :: a3 :: a4 :: a5 :: a6 :: a7 :: a8 :: a9 :: a10 :: a11 :: a12 :: s :: l) 13 t = a0 :: a1 :: a2 :: a3 :: a4 :: a5 :: a6 :: a7 :: a8 :: a9 :: a10 :: a11 :: a12 :: t :: l := rfl
@[simp] theorem gt13 (a0 a1 a2 a3 a4 a5 a6 a7 a8 a9 a10 a11 a12 : Option Sl) (s : Option Sl) (l : Ev) : (a0 :: a1 :: a2 :: a3 :: a4 :: a5 :: a6 :: a7 :: a8 :: a9 :: a10 :: a11 :: a12 :: s :: l)[13]? = some s := rfl
@[simp] theorem gv14 (a0 a1 a2 a3 a4 a5 a6 a7 a8 a9 a10 a11 a12 a13 : Option Sl) (d : PyData) (l : Ev) : getV (a0 :: a1 :: a2 :: a3 :: a4 :: a5 :: a6 :: a7 :: a8 :: a9 :: a10 :: a11 :: a12 :: a13 :: some (.v d) :: l) 14 = .ok d := rfl
@[simp] theorem pv14 (a0 a1 a2 a3 a4 a5 a6 a7 a8 a9 a10 a11 a12 a13 : Option Sl) (d : PyData) (l : Ev) : peek (a0 :: a1 :: a2 :: a3 :: a4 :: a5 :: a6 :: a7 :: a8 :: a9 :: a10 :: a11 :: a12 :: a13 :: some (.v d) :: l) 14 = .ok d := rfl
@[simp] theorem pl14 (a0 a1 a2 a3 a4 a5 a6 a7 a8 a9 a10 a11 a12 a13 : Option Sl) (d : List PyData) (l : Ev) : peek (a0 :: a1 :: a2 :: a3 :: a4 :: a5 :: a6 :: a7 :: a8 :: a9 :: a10 :: a11 :: a12 :: a13 :: some (.l d) :: l) 14 = .ok (.list d) := rfl
@[simp] theorem pd14 (a0 a1 a2 a3 a4 a5 a6 a7 a8 a9 a10 a11 a12 a13 : Option Sl) (t : Bool) (d : List (PyData × PyData)) (l : Ev) : peek (a0 :: a1 :: a2 :: a3 :: a4 :: a5 :: a6 :: a7 :: a8 :: a9 :: a10 :: a11 :: a12 :: a13 :: some (.d t d) :: l) 14 = .ok (.dict d) := rfl
@[simp] theorem st14 (a0 a1 a2 a3 a4 a5 a6 a7 a8 a9 a10 a11 a12 a13 : Option Sl) (s t : Option Sl) (l : Ev) : List.set (a0 :: a1 :: a2 :: a3 :: a4 :: a5 :: a6 :: a7 :: a8 :: a9 :: a10 :: a11 :: a12 :: a13 :: s :: l) 14 t = a0 :: a1 :: a2 :: a3 :: a4 :: a5 :: a6 :: a7 :: a8 :: a9 :: a10 :: a11 :: a12 :: a13 :: t :: l := rfl
@[simp] theorem gt14 (a0 a1 a2 a3 a4 a5 a6 a7 a8 a9 a10 a11 a12 a13 : Option Sl) (s : Option Sl) (l : Ev) : (a0 :: a1 :: a2 :: a3 :: a4 :: a5 :: a6 :: a7 :: a8 :: a9 :: a10 :: a11 :: a12 :: a13 :: s :: l)[14]? = some s := rfl
@[simp] theorem gv15 (a0 a1 a2 a3 a4 a5 a6 a7 a8 a9 a10 a11 a12 a13 a14 : Option Sl) (d : PyData) (l : Ev) : getV (a0 :: a1 :: a2 :: a3 :: a4 :: a5 :: a6 :: a7 :: a8 :: a9 :: a10 :: a11 :: a12 :: a13 :: a14 :: some (.v d) :: l) 15 = .ok d := rfl
@[simp] theorem pv15 (a0 a1 a2 a3 a4 a5 a6 a7 a8 a9 a10 a11 a12 a13 a14 : Option Sl) (d : PyData) (l : Ev) : peek (a0 :: a1 :: a2 :: a3 :: a4 :: a5 :: a6 :: a7 :: a8 :: a9 :: a10 :: a11 :: a12 :: a13 :: a14 :: some (.v d) :: l) 15 = .ok d := rfl
@[simp] theorem pl15 (a0 a1 a2 a3 a4 a5 a6 a7 a8 a9 a10 a11 a12 a13 a14 : Option Sl) (d : List PyData) (l : Ev) : peek (a0 :: a1 :: a2 :: a3 :: a4 :: a5 :: a6 :: a7 :: a8 :: a9 :: a10 :: a11 :: a12 :: a13 :: a14 :: some (.l d) :: l) 15 = .ok (.list d) := rfl
@[simp] theorem pd15 (a0 a1 a2 a3 a4 a5 a6 a7 a8 a9 a10 a11 a12 a13 a14 : Option Sl) (t : Bool) (d : List (PyData × PyData)) (l : Ev) : peek (a0 :: a1 :: a2 :: a3 :: a4 :: a5 :: a6 :: a7 :: a8 :: a9 :: a10 :: a11 :: a12 :: a13 :: a14 :: some (.d t d) :: l) 15 = .ok (.dict d) := rfl
@[simp] theorem st15 (a0 a1 a2 a3 a4 a5 a6 a7 a8 a9 a10 a11 a12 a13 a14 : Option Sl) (s t : Option Sl) (l : Ev) : List.set (a0 :: a1 :: a2 :: a3 :: a4 :: a5 :: a6 :: a7 :: a8 :: a9 :: a10 :: a11 :: a12 :: a13 :: a14 :: s :: l) 15 t = a0 :: a1 :: a2 :: a3 :: a4 :: a5 :: a6 :: a7 :: a8 :: a9 :: a10 :: a11 :: a12 :: a13 :: a14 :: t :: l := rfl
@[simp] theorem gt15 (a0 a1 a2 a3 a4 a5 a6 a7 a8 a9 a10 a11 a12 a13 a14 : Option Sl) (s : Option Sl) (l : Ev) : (a0 :: a1 :: a2 :: a3 :: a4 :: a5 :: a6 :: a7 :: a8 :: a9 :: a10 :: a11 :: a12 :: a13 :: a14 :: s :: l)[15]? = some s := rfl
@[simp] theorem gv16 (a0 a1 a2 a3 a4 a5 a6 a7 a8 a9 a10 a11 a12 a13 a14 a15 : Option Sl) (d : PyData) (l : Ev) : getV (a0 :: a1 :: a2 :: a3 :: a4 :: a5 :: a6 :: a7 :: a8 :: a9 :: a10 :: a11 :: a12 :: a13 :: a14 :: a15 :: some (.v d) :: l) 16 = .ok d := rfl
@[simp] theorem pv16 (a0 a1 a2 a3 a4 a5 a6 a7 a8 a9 a10 a11 a12 a13 a14 a15 : Option Sl) (d : PyData) (l : Ev) : peek (a0 :: a1 :: a2 :: a3 :: a4 :: a5 :: a6 :: a7 :: a8 :: a9 :: a10 :: a11 :: a12 :: a13 :: a14 :: a15 :: some (.v d) :: l) 16 = .ok d := rfl
@[simp] theorem pl16 (a0 a1 a2 a3 a4 a5 a6 a7 a8 a9 a10 a11 a12 a13 a14 a15 : Option Sl) (d : List PyData) (l : Ev) : peek (a0 :: a1 :: a2 :: a3 :: a4 :: a5 :: a6 :: a7 :: a8 :: a9 :: a10 :: a11 :: a12 :: a13 :: a14 :: a15 :: some (.l d) :: l) 16 = .ok (.list d) := rfl
@[simp] theorem pd16 (a0 a1 a2 a3 a4 a5 a6 a7 a8 a9 a10 a11 a12 a13 a14 a15 : Option Sl) (t : Bool) (d : List (PyData × PyData)) (l : Ev) : peek (a0 :: a1 :: a2 :: a3 :: a4 :: a5 :: a6 :: a7 :: a8 :: a9 :: a10 :: a11 :: a12 :: a13 :: a14 :: a15 :: some (.d t d) :: l) 16 = .ok (.dict d) := rfl
@[simp] theorem st16 (a0 a1 a2 a3 a4 a5 a6 a7 a8 a9 a10 a11 a12 a13 a14 a15 : Option Sl) (s t : Option Sl) (l : Ev) : List.set (a0 :: a1 :: a2 :: a3 :: a4 :: a5 :: a6 :: a7 :: a8 :: a9 :: a10 :: a11 :: a12 :: a13 :: a14 :: a15 :: s :: l) 16 t = a0 :: a1 :: a2 :: a3 :: a4 :: a5 :: a6 :: a7 :: a8 :: a9 :: a10 :: a11 :: a12 :: a13 :: a14 :: a15 :: t :: l := rfl
@[simp] theorem gt16 (a0 a1 a2 a3 a4 a5 a6 a7 a8 a9 a10 a11 a12 a13 a14 a15 : Option Sl) (s : Option Sl) (l : Ev) : (a0 :: a1 :: a2 :: a3 :: a4 :: a5 :: a6 :: a7 :: a8 :: a9 :: a10 :: a11 :: a12 :: a13 :: a14 :: a15 :: s :: l)[16]? = some s := rfl
@[simp] theorem gv17 (a0 a1 a2 a3 a4 a5 a6 a7 a8 a9 a10 a11 a12 a13 a14 a15 a16 : Option Sl) (d : PyData) (l : Ev) : getV (a0 :: a1 :: a2 :: a3 :: a4 :: a5 :: a6 :: a7 :: a8 :: a9 :: a10 :: a11 :: a12 :: a13 :: a14 :: a15 :: a16 :: some (.v d) :: l) 17 = .ok d := rfl
@[simp] theorem pv17 (a0 a1 a2 a3 a4 a5 a6 a7 a8 a9 a10 a11 a12 a13 a14 a15 a16 : Option Sl) (d : PyData) (l : Ev) : peek (a0 :: a1 :: a2 :: a3 :: a4 :: a5 :: a6 :: a7 :: a8 :: a9 :: a10 :: a11 :: a12 :: a13 :: a14 :: a15 :: a16 :: some (.v d) :: l) 17 = .ok d := rfl
@[simp] theorem pl17 (a0 a1 a2 a3 a4 a5 a6 a7 a8 a9 a10 a11 a12 a13 a14 a15 a16 : Option Sl) (d : List PyData) (l : Ev) : peek (a0 :: a1 :: a2 :: a3 :: a4 :: a5 :: a6 :: a7 :: a8 :: a9 :: a10 :: a11 :: a12 :: a13 :: a14 :: a15 :: a16 :: some (.l d) :: l) 17 = .ok (.list d) := rfl
@[simp] theorem pd17 (a0 a1 a2 a3 a4 a5 a6 a7 a8 a9 a10 a11 a12 a13 a14 a15 a16 : Option Sl) (t : Bool) (d : List (PyData × PyData)) (l : Ev) : peek (a0 :: a1 :: a2 :: a3 :: a4 :: a5 :: a6 :: a7 :: a8 :: a9 :: a10 :: a11 :: a12 :: a13 :: a14 :: a15 :: a16 :: some (.d t d) :: l) 17 = .ok (.dict d) := rfl
@[simp] theorem st17 (a0 a1 a2 a3 a4 a5 a6 a7 a8 a9 a10 a11 a12 a13 a14 a15 a16 : Option Sl) (s t : Option Sl) (l : Ev) : List.set (a0 :: a1 :: a2 :: a3 :: a4 :: a5 :: a6 :: a7 :: a8 :: a9 :: a10 :: a11 :: a12 :: a13 :: a14 :: a15 :: a16 :: s :: l) 17 t = a0 :: a1 :: a2 :: a3 :: a4 :: a5 :: a6 :: a7 :: a8 :: a9 :: a10 :: a11 :: a12 :: a13 :: a14 :: a15 :: a16 :: t :: l := rfl
@[simp] theorem gt17 (a0 a1 a2 a3 a4 a5 a6 a7 a8 a9 a10 a11 a12 a13 a14 a15 a16 : Option Sl) (s : Option Sl) (l : Ev) : (a0 :: a1 :: a2 :: a3 :: a4 :: a5 :: a6 :: a7 :: a8 :: a9 :: a10 :: a11 :: a12 :: a13 :: a14 :: a15 :: a16 :: s :: l)[17]? = some s := rfl
@[simp] theorem gv18 (a0 a1 a2 a3 a4 a5 a6 a7 a8 a9 a10 a11 a12 a13 a14 a15 a16 a17 : Option Sl) (d : PyData) (l : Ev) : getV (a0 :: a1 :: a2 :: a3 :: a4 :: a5 :: a6 :: a7 :: a8 :: a9 :: a10 :: a11 :: a12 :: a13 :: a14 :: a15 :: a16 :: a17 :: some (.v d) :: l) 18 = .ok d := rfl
@[simp] theorem pv18 (a0 a1 a2 a3 a4 a5 a6 a7 a8 a9 a10 a11 a12 a13 a14 a15 a16 a17 : Option Sl) (d : PyData) (l : Ev) : peek (a0 :: a1 :: a2 :: a3 :: a4 :: a5 :: a6 :: a7 :: a8 :: a9 :: a10 :: a11 :: a12 :: a13 :: a14 :: a15 :: a16 :: a17 :: some (.v d) :: l) 18 = .ok d := rfl
@[simp] theorem pl18 (a0 a1 a2 a3 a4 a5 a6 a7 a8 a9 a10 a11 a12 a13 a14 a15 a16 a17 : Option Sl) (d : List PyData) (l : Ev) : peek (a0 :: a1 :: a2 :: a3 :: a4 :: a5 :: a6 :: a7 :: a8 :: a9 :: a10 :: a11 :: a12 :: a13 :: a14 :: a15 :: a16 :: a17 :: some (.l d) :: l) 18 = .ok (.list d) := rfl
@[simp] theorem pd18 (a0 a1 a2 a3 a4 a5 a6 a7 a8 a9 a10 a11 a12 a13 a14 a15 a16 a17 : Option Sl) (t : Bool) (d : List (PyData × PyData)) (l : Ev) : peek (a0 :: a1 :: a2 :: a3 :: a4 :: a5 :: a6 :: a7 :: a8 :: a9 :: a10 :: a11 :: a12 :: a13 :: a14 :: a15 :: a16 :: a17 :: some (.d t d) :: l) 18 = .ok (.dict d) := rfl
@[simp] theorem st18 (a0 a1 a2 a3 a4 a5 a6 a7 a8 a9 a10 a11 a12 a13 a14 a15 a16 a17 : Option Sl) (s t : Option Sl) (l : Ev) : List.set (a0 :: a1 :: a2 :: a3 :: a4 :: a5 :: a6 :: a7 :: a8 :: a9 :: a10 :: a11 :: a12 :: a13 :: a14 :: a15 :: a16 :: a17 :: s :: l) 18 t = a0 :: a1 :: a2 :: a3 :: a4 :: a5 :: a6 :: a7 :: a8 :: a9 :: a10 :: a11 :: a12 :: a13 :: a14 :: a15 :: a16 :: a17 :: t :: l := rfl
@[simp] theorem gt18 (a0 a1 a2 a3 a4 a5 a6 a7 a8 a9 a10 a11 a12 a13 a14 a15 a16 a17 : Option Sl) (s : Option Sl) (l : Ev) : (a0 :: a1 :: a2 :: a3 :: a4 :: a5 :: a6 :: a7 :: a8 :: a9 :: a10 :: a11 :: a12 :: a13 :: a14 :: a15 :: a16 :: a17 :: s :: l)[18]? = some s := rfl
@[simp] theorem gv19 (a0 a1 a2 a3 a4 a5 a6 a7 a8 a9 a10 a11 a12 a13 a14 a15 a16 a17 a18 : Option Sl) (d : PyData) (l : Ev) : getV (a0 :: a1 :: a2 :: a3 :: a4 :: a5 :: a6 :: a7 :: a8 :: a9 :: a10 :: a11 :: a12 :: a13 :: a14 :: a15 :: a16 :: a17 :: a18 :: some (.v d) :: l) 19 = .ok d := rfl
@[simp] theorem pv19 (a0 a1 a2 a3 a4 a5 a6 a7 a8 a9 a10 a11 a12 a13 a14 a15 a16 a17 a18 : Option Sl) (d : PyData) (l : Ev) : peek (a0 :: a1 :: a2 :: a3 :: a4 :: a5 :: a6 :: a7 :: a8 :: a9 :: a10 :: a11 :: a12 :: a13 :: a14 :: a15 :: a16 :: a17 :: a18 :: some (.v d) :: l) 19 = .ok d := rfl
@[simp] theorem pl19 (a0 a1 a2 a3 a4 a5 a6 a7 a8 a9 a10 a11 a12 a13 a14 a15 a16 a17 a18 : Option Sl) (d : List PyData) (l : Ev) : peek (a0 :: a1 :: a2 :: a3 :: a4 :: a5 :: a6 :: a7 :: a8 :: a9 :: a10 :: a11 :: a12 :: a13 :: a14 :: a15 :: a16 :: a17 :: a18 :: some (.l d) :: l) 19 = .ok (.list d) := rfl
@[simp] theorem pd19 (a0 a1 a2 a3 a4 a5 a6 a7 a8 a9 a10 a11 a12 a13 a14 a15 a16 a17 a18 : Option Sl) (t : Bool) (d : List (PyData × PyData)) (l : Ev) : peek (a0 :: a1 :: a2 :: a3 :: a4 :: a5 :: a6 :: a7 :: a8 :: a9 :: a10 :: a11 :: a12 :: a13 :: a14 :: a15 :: a16 :: a17 :: a18 :: some (.d t d) :: l) 19 = .ok (.dict d) := rfl
@[simp] theorem st19 (a0 a1 a2 a3 a4 a5 a6 a7 a8 a9 a10 a11 a12 a13 a14 a15 a16 a17 a18 : Option Sl) (s t : Option Sl) (l : Ev) : List.set (a0 :: a1 :: a2 :: a3 :: a4 :: a5 :: a6 :: a7 :: a8 :: a9 :: a10 :: a11 :: a12 :: a13 :: a14 :: a15 :: a16 :: a17 :: a18 :: s :: l) 19 t = a0 :: a1 :: a2 :: a3 :: a4 :: a5 :: a6 :: a7 :: a8 :: a9 :: a10 :: a11 :: a12 :: a13 :: a14 :: a15 :: a16 :: a17 :: a18 :: t :: l := rfl
@[simp] theorem gt19 (a0 a1 a2 a3 a4 a5 a6 a7 a8 a9 a10 a11 a12 a13 a14 a15 a16 a17 a18 : Option Sl) (s : Option Sl) (l : Ev) : (a0 :: a1 :: a2 :: a3 :: a4 :: a5 :: a6 :: a7 :: a8 :: a9 :: a10 :: a11 :: a12 :: a13 :: a14 :: a15 :: a16 :: a17 :: a18 :: s :: l)[19]? = some s := rfl
@[simp] theorem gv20 (a0 a1 a2 a3 a4 a5 a6 a7 a8 a9 a10 a11 a12 a13 a14 a15 a16 a17 a18 a19 : Option Sl) (d : PyData) (l : Ev) : getV (a0 :: a1 :: a2 :: a3 :: a4 :: a5 :: a6 :: a7 :: a8 :: a9 :: a10 :: a11 :: a12 :: a13 :: a14 :: a15 :: a16 :: a17 :: a18 :: a19 :: some (.v d) :: l) 20 = .ok d := rfl
@[simp] theorem pv20 (a0 a1 a2 a3 a4 a5 a6 a7 a8 a9 a10 a11 a12 a13 a14 a15 a16 a17 a18 a19 : Option Sl) (d : PyData) (l : Ev) : peek (a0 :: a1 :: a2 :: a3 :: a4 :: a5 :: a6 :: a7 :: a8 :: a9 :: a10 :: a11 :: a12 :: a13 :: a14 :: a15 :: a16 :: a17 :: a18 :: a19 :: some (.v d) :: l) 20 = .ok d := rfl
@[simp] theorem pl20 (a0 a1 a2 a3 a4 a5 a6 a7 a8 a9 a10 a11 a12 a13 a14 a15 a16 a17 a18 a19 : Option Sl) (d : List PyData) (l : Ev) : peek (a0 :: a1 :: a2 :: a3 :: a4 :: a5 :: a6 :: a7 :: a8 :: a9 :: a10 :: a11 :: a12 :: a13 :: a14 :: a15 :: a16 :: a17 :: a18 :: a19 :: some (.l d) :: l) 20 = .ok (.list d) := rfl
@[simp] theorem pd20 (a0 a1 a2 a3 a4 a5 a6 a7 a8 a9 a10 a11 a12 a13 a14 a15 a16 a17 a18 a19 : Option Sl) (t : Bool) (d : List (PyData × PyData)) (l : Ev) : peek (a0 :: a1 :: a2 :: a3 :: a4 :: a5 :: a6 :: a7 :: a8 :: a9 :: a10 :: a11 :: a12 :: a13 :: a14 :: a15 :: a16 :: a17 :: a18 :: a19 :: some (.d t d) :: l) 20 = .ok (.dict d) := rfl
@[simp] theorem st20 (a0 a1 a2 a3 a4 a5 a6 a7 a8 a9 a10 a11 a12 a13 a14 a15 a16 a17 a18 a19 : Option Sl) (s t : Option Sl) (l : Ev) : List.set (a0 :: a1 :: a2 :: a3 :: a4 :: a5 :: a6 :: a7 :: a8 :: a9 :: a10 :: a11 :: a12 :: a13 :: a14 :: a15 :: a16 :: a17 :: a18 :: a19 :: s :: l) 20 t = a0 :: a1 :: a2 :: a3 :: a4 :: a5 :: a6 :: a7 :: a8 :: a9 :: a10 :: a11 :: a12 :: a13 :: a14 :: a15 :: a16 :: a17 :: a18 :: a19 :: t :: l := rfl
@[simp] theorem gt20 (a0 a1 a2 a3 a4 a5 a6 a7 a8 a9 a10 a11 a12 a13 a14 a15 a16 a17 a18 a19 : Option Sl) (s : Option Sl) (l : Ev) : (a0 :: a1 :: a2 :: a3 :: a4 :: a5 :: a6 :: a7 :: a8 :: a9 :: a10 :: a11 :: a12 :: a13 :: a14 :: a15 :: a16 :: a17 :: a18 :: a19 :: s :: l)[20]? = some s := rfl
@[simp] theorem gv21 (a0 a1 a2 a3 a4 a5 a6 a7 a8 a9 a10 a11 a12 a13 a14 a15 a16 a17 a18 a19 a20 : Option Sl) (d : PyData) (l : Ev) : getV (a0 :: a1 :: a2 :: a3 :: a4 :: a5 :: a6 :: a7 :: a8 :: a9 :: a10 :: a11 :: a12 :: a13 :: a14 :: a15 :: a16 :: a17 :: a18 :: a19 :: a20 :: some (.v d) :: l) 21 = .ok d := rfl
@[simp] theorem pv21 (a0 a1 a2 a3 a4 a5 a6 a7 a8 a9 a10 a11 a12 a13 a14 a15 a16 a17 a18 a19 a20 : Option Sl) (d : PyData) (l : Ev) : peek (a0 :: a1 :: a2 :: a3 :: a4 :: a5 :: a6 :: a7 :: a8 :: a9 :: a10 :: a11 :: a12 :: a13 :: a14 :: a15 :: a16 :: a17 :: a18 :: a19 :: a20 :: some (.v d) :: l) 21 = .ok d := rfl
@[simp] theorem pl21 (a0 a1 a2 a3 a4 a5 a6 a7 a8 a9 a10 a11 a12 a13 a14 a15 a16 a17 a18 a19 a20 : Option Sl) (d : List PyData) (l : Ev) : peek (a0 :: a1 :: a2 :: a3 :: a4 :: a5 :: a6 :: a7 :: a8 :: a9 :: a10 :: a11 :: a12 :: a13 :: a14 :: a15 :: a16 :: a17 :: a18 :: a19 :: a20 :: some (.l d) :: l) 21 = .ok (.list d) := rfl
@[simp] theorem pd21 (a0 a1 a2 a3 a4 a5 a6 a7 a8 a9 a10 a11 a12 a13 a14 a15 a16 a17 a18 a19 a20 : Option Sl) (t : Bool) (d : List (PyData × PyData)) (l : Ev) : peek (a0 :: a1 :: a2 :: a3 :: a4 :: a5 :: a6 :: a7 :: a8 :: a9 :: a10 :: a11 :: a12 :: a13 :: a14 :: a15 :: a16 :: a17 :: a18 :: a19 :: a20 :: some (.d t d) :: l) 21 = .ok (.dict d) := rfl
@[simp] theorem st21 (a0 a1 a2 a3 a4 a5 a6 a7 a8 a9 a10 a11 a12 a13 a14 a15 a16 a17 a18 a19 a20 : Option Sl) (s t : Option Sl) (l : Ev) : List.set (a0 :: a1 :: a2 :: a3 :: a4 :: a5 :: a6 :: a7 :: a8 :: a9 :: a10 :: a11 :: a12 :: a13 :: a14 :: a15 :: a16 :: a17 :: a18 :: a19 :: a20 :: s :: l) 21 t = a0 :: a1 :: a2 :: a3 :: a4 :: a5 :: a6 :: a7 :: a8 :: a9 :: a10 :: a11 :: a12 :: a13 :: a14 :: a15 :: a16 :: a17 :: a18 :: a19 :: a20 :: t :: l := rfl
@[simp] theorem gt21 (a0 a1 a2 a3 a4 a5 a6 a7 a8 a9 a10 a11 a12 a13 a14 a15 a16 a17 a18 a19 a20 : Option Sl) (s : Option Sl) (l : Ev) : (a0 :: a1 :: a2 :: a3 :: a4 :: a5 :: a6 :: a7 :: a8 :: a9 :: a10 :: a11 :: a12 :: a13 :: a14 :: a15 :: a16 :: a17 :: a18 :: a19 :: a20 :: s :: l)[21]? = some s := rfl
@[simp] theorem gv22 (a0 a1 a2 a3 a4 a5 a6 a7 a8 a9 a10 a11 a12 a13 a14 a15 a16 a17 a18 a19 a20 a21 : Option Sl) (d : PyData) (l : Ev) : getV (a0 :: a1 :: a2 :: a3 :: a4 :: a5 :: a6 :: a7 :: a8 :: a9 :: a10 :: a11 :: a12 :: a13 :: a14 :: a15 :: a16 :: a17 :: a18 :: a19 :: a20 :: a21 :: some (.v d) :: l) 22 = .ok d := rfl
@[simp] theorem pv22 (a0 a1 a2 a3 a4 a5 a6 a7 a8 a9 a10 a11 a12 a13 a14 a15 a16 a17 a18 a19 a20 a21 : Option Sl) (d : PyData) (l : Ev) : peek (a0 :: a1 :: a2 :: a3 :: a4 :: a5 :: a6 :: a7 :: a8 :: a9 :: a10 :: a11 :: a12 :: a13 :: a14 :: a15 :: a16 :: a17 :: a18 :: a19 :: a20 :: a21 :: some (.v d) :: l) 22 = .ok d := rfl
@[simp] theorem pl22 (a0 a1 a2 a3 a4 a5 a6 a7 a8 a9 a10 a11 a12 a13 a14 a15 a16 a17 a18 a19 a20 a21 : Option Sl) (d : List PyData) (l : Ev) : peek (a0 :: a1 :: a2 :: a3 :: a4 :: a5 :: a6 :: a7 :: a8 :: a9 :: a10 :: a11 :: a12 :: a13 :: a14 :: a15 :: a16 :: a17 :: a18 :: a19 :: a20 :: a21 :: some (.l d) :: l) 22 = .ok (.list d) := rfl
@[simp] theorem pd22 (a0 a1 a2 a3 a4 a5 a6 a7 a8 a9 a10 a11 a12 a13 a14 a15 a16 a17 a18 a19 a20 a21 : Option Sl) (t : Bool) (d : List (PyData × PyData)) (l : Ev) : peek (a0 :: a1 :: a2 :: a3 :: a4 :: a5 :: a6 :: a7 :: a8 :: a9 :: a10 :: a11 :: a12 :: a13 :: a14 :: a15 :: a16 :: a17 :: a18 :: a19 :: a20 :: a21 :: some (.d t d) :: l) 22 = .ok (.dict d) := rfl
@[simp] theorem st22 (a0 a1 a2 a3 a4 a5 a6 a7 a8 a9 a10 a11 a12 a13 a14 a15 a16 a17 a18 a19 a20 a21 : Option Sl) (s t : Option Sl) (l : Ev) : List.set (a0 :: a1 :: a2 :: a3 :: a4 :: a5 :: a6 :: a7 :: a8 :: a9 :: a10 :: a11 :: a12 :: a13 :: a14 :: a15 :: a16 :: a17 :: a18 :: a19 :: a20 :: a21 :: s :: l) 22 t = a0 :: a1 :: a2 :: a3 :: a4 :: a5 :: a6 :: a7 :: a8 :: a9 :: a10 :: a11 :: a12 :: a13 :: a14 :: a15 :: a16 :: a17 :: a18 :: a19 :: a20 :: a21 :: t :: l := rfl
@[simp] theorem gt22 (a0 a1 a2 a3 a4 a5 a6 a7 a8 a9 a10 a11 a12 a13 a14 a15 a16 a17 a18 a19 a20 a21 : Option Sl) (s : Option Sl) (l : Ev) : (a0 :: a1 :: a2 :: a3 :: a4 :: a5 :: a6 :: a7 :: a8 :: a9 :: a10 :: a11 :: a12 :: a13 :: a14 :: a15 :: a16 :: a17 :: a18 :: a19 :: a20 :: a21 :: s :: l)[22]? = some s := rfl
@[simp] theorem gv23 (a0 a1 a2 a3 a4 a5 a6 a7 a8 a9 a10 a11 a12 a13 a14 a15 a16 a17 a18 a19 a20 a21 a22 : Option Sl) (d : PyData) (l : Ev) : getV (a0 :: a1 :: a2 :: a3 :: a4 :: a5 :: a6 :: a7 :: a8 :: a9 :: a10 :: a11 :: a12 :: a13 :: a14 :: a15 :: a16 :: a17 :: a18 :: a19 :: a20 :: a21 :: a22 :: some (.v d) :: l) 23 = .ok d := rfl
@[simp] theorem pv23 (a0 a1 a2 a3 a4 a5 a6 a7 a8 a9 a10 a11 a12 a13 a14 a15 a16 a17 a18 a19 a20 a21 a22 : Option Sl) (d : PyData) (l : Ev) : peek (a0 :: a1 :: a2 :: a3 :: a4 :: a5 :: a6 :: a7 :: a8 :: a9 :: a10 :: a11 :: a12 :: a13 :: a14 :: a15 :: a16 :: a17 :: a18 :: a19 :: a20 :: a21 :: a22 :: some (.v d) :: l) 23 = .ok d := rfl
@[simp] theorem pl23 (a0 a1 a2 a3 a4 a5 a6 a7 a8 a9 a10 a11 a12 a13 a14 a15 a16 a17 a18 a19 a20 a21 a22 : Option Sl) (d : List PyData) (l : Ev) : peek (a0 :: a1 :: a2 :: a3 :: a4 :: a5 :: a6 :: a7 :: a8 :: a9 :: a10 :: a11 :: a12 :: a13 :: a14 :: a15 :: a16 :: a17 :: a18 :: a19 :: a20 :: a21 :: a22 :: some (.l d) :: l) 23 = .ok (.list d) := rfl
@[simp] theorem pd23 (a0 a1 a2 a3 a4 a5 a6 a7 a8 a9 a10 a11 a12 a13 a14 a15 a16 a17 a18 a19 a20 a21 a22 : Option Sl) (t : Bool) (d : List (PyData × PyData)) (l : Ev) : peek (a0 :: a1 :: a2 :: a3 :: a4 :: a5 :: a6 :: a7 :: a8 :: a9 :: a10 :: a11 :: a12 :: a13 :: a14 :: a15 :: a16 :: a17 :: a18 :: a19 :: a20 :: a21 :: a22 :: some (.d t d) :: l) 23 = .ok (.dict d) := rfl
@[simp] theorem st23 (a0 a1 a2 a3 a4 a5 a6 a7 a8 a9 a10 a11 a12 a13 a14 a15 a16 a17 a18 a19 a20 a21 a22 : Option Sl) (s t : Option Sl) (l : Ev) : List.set (a0 :: a1 :: a2 :: a3 :: a4 :: a5 :: a6 :: a7 :: a8 :: a9 :: a10 :: a11 :: a12 :: a13 :: a14 :: a15 :: a16 :: a17 :: a18 :: a19 :: a20 :: a21 :: a22 :: s :: l) 23 t = a0 :: a1 :: a2 :: a3 :: a4 :: a5 :: a6 :: a7 :: a8 :: a9 :: a10 :: a11 :: a12 :: a13 :: a14 :: a15 :: a16 :: a17 :: a18 :: a19 :: a20 :: a21 :: a22 :: t :: l := rfl
@[simp] theorem gt23 (a0 a1 a2 a3 a4 a5 a6 a7 a8 a9 a10 a11 a12 a13 a14 a15 a16 a17 a18 a19 a20 a21 a22 : Option Sl) (s : Option Sl) (l : Ev) : (a0 :: a1 :: a2 :: a3 :: a4 :: a5 :: a6 :: a7 :: a8 :: a9 :: a10 :: a11 :: a12 :: a13 :: a14 :: a15 :: a16 :: a17 :: a18 :: a19 :: a20 :: a21 :: a22 :: s :: l)[23]? = some s := rfl
end
end Cg

set_option maxHeartbeats 1000000
namespace Cg
open PySem PySem.Spec PyProof.Rows L2
/-! ### 24. the texts of the program's defs -/
def N_is_int : List Str := ["value", "least", "most"]
def B_is_int : Ss := (.cons (.ret (.and (.isi .int (.var 0)) (.and (.nt (.isi .bool (.var 0))) (.and1 (.chn .LtE .LtE (.var 1) (.var 0) (.var 2))))))
    .nil)
def N_are_teeth : List Str := ["value", "most", "least", "greatest", "teeth", "one", "other"]
def B_are_teeth (k_is_int : Nat) : Ss := (.cons (.ife (.or (.nt (.isi .tuple (.var 0))) (.or1 (.nt (.chn .LtE .LtE (.int 1) (.blt .len (.cons (.var 0) .nil)) (.var 1)))))
    (.cons (.ret (.bl false))
    .nil)
    .nil)
    (.cons (.ife (.nt (.blt .all (.cons (.lc (.call k_is_int (.cons (.var 4) (.cons (.var 2) (.cons (.var 3) .nil)))) (.one 4) (.val (.var 0)) [("teeth", 4)]) .nil)))
    (.cons (.ret (.bl false))
    .nil)
    .nil)
    (.cons (.ret (.blt .all (.cons (.lc (.cmp .Lt (.var 5) (.var 6)) (.tup [5, 6]) (.zip (.var 0) (.slc (.var 0) (.some (.int 1)) .none)) [("one", 5), ("other", 6)]) .nil)))
    .nil)))
def N_are_rings : List Str := ["value"]
def B_are_rings (k_are_teeth : Nat) : Ss := (.cons (.ret (.call k_are_teeth (.cons (.var 0) (.cons (.glo "MAX_RINGS" (.int 3)) (.cons (.glo "MIN_RING" (.int 10)) (.cons (.glo "MAX_RING" (.int 60)) .nil))))))
    .nil)
def N_are_cogs : List Str := ["value"]
def B_are_cogs (k_are_teeth : Nat) : Ss := (.cons (.ret (.call k_are_teeth (.cons (.var 0) (.cons (.glo "MAX_COGS" (.int 8)) (.cons (.glo "MIN_COG" (.int 8)) (.cons (.glo "MAX_COG" (.int 50)) .nil))))))
    .nil)
def N_is_bike : List Str := ["candidate"]
def B_is_bike (k_are_rings k_are_cogs : Nat) : Ss := (.cons (.ife (.or (.nt (.isi .tuple (.var 0))) (.or1 (.cmp .NotEq (.blt .len (.cons (.var 0) .nil)) (.int 2))))
    (.cons (.ret (.bl false))
    .nil)
    .nil)
    (.cons (.ret (.and (.call k_are_rings (.cons (.ix (.var 0) (.int 0)) .nil)) (.and1 (.call k_are_cogs (.cons (.ix (.var 0) (.int 1)) .nil)))))
    .nil))
def N_has_gear : List Str := ["bike", "candidate"]
def B_has_gear (k_is_int : Nat) : Ss := (.cons (.ife (.or (.nt (.isi .tuple (.var 1))) (.or1 (.cmp .NotEq (.blt .len (.cons (.var 1) .nil)) (.int 2))))
    (.cons (.ret (.bl false))
    .nil)
    .nil)
    (.cons (.ret (.and (.call k_is_int (.cons (.ix (.var 1) (.int 0)) (.cons (.int 0) (.cons (.bin .Sub (.blt .len (.cons (.ix (.var 0) (.int 0)) .nil)) (.int 1)) .nil)))) (.and1 (.call k_is_int (.cons (.ix (.var 1) (.int 1)) (.cons (.int 0) (.cons (.bin .Sub (.blt .len (.cons (.ix (.var 0) (.int 1)) .nil)) (.int 1)) .nil)))))))
    .nil))
def N_check_bike : List Str := ["value"]
def B_check_bike (k_is_bike : Nat) : Ss := (.cons (.ife (.nt (.call k_is_bike (.cons (.var 0) .nil)))
    (.cons (.rse "InvalidBike")
    .nil)
    .nil)
    .nil)
def N_check_gear : List Str := ["bike", "value"]
def B_check_gear (k_has_gear : Nat) : Ss := (.cons (.ife (.nt (.call k_has_gear (.cons (.var 0) (.cons (.var 1) .nil))))
    (.cons (.rse "InvalidGear")
    .nil)
    .nil)
    .nil)
def N_divisor : List Str := ["one", "other"]
def B_divisor (fuel : Nat) : Ss := (.cons (.whl fuel (.cmp .Gt (.var 1) (.int 0))
    (.cons (.par [0, 1] [(false, (.var 1)), (false, (.bin .Mod (.var 0) (.var 1)))])
    .nil))
    (.cons (.ret (.var 0))
    .nil))
def N_reduced : List Str := ["above", "below", "part"]
def B_reduced (k_divisor : Nat) : Ss := (.cons (.asg 2 (.call k_divisor (.cons (.var 0) (.cons (.var 1) .nil))))
    (.cons (.ret (.tup (.cons (.bin .FloorDiv (.var 0) (.var 2)) (.cons (.bin .FloorDiv (.var 1) (.var 2)) .nil))))
    .nil))
def N_find_ratio : List Str := ["bike", "gear"]
def B_find_ratio (k_reduced : Nat) : Ss := (.cons (.ret (.call k_reduced (.cons (.ix (.ix (.var 0) (.int 0)) (.ix (.var 1) (.int 0))) (.cons (.ix (.ix (.var 0) (.int 1)) (.ix (.var 1) (.int 1))) .nil))))
    .nil)
def N_all_gears : List Str := ["bike", "ring", "cog"]
def B_all_gears : Ss := (.cons (.ret (.lc2 (.tup (.cons (.var 1) (.cons (.var 2) .nil))) (.one 1) (.rng1 (.blt .len (.cons (.ix (.var 0) (.int 0)) .nil))) (.one 2) (.rng1 (.blt .len (.cons (.ix (.var 0) (.int 1)) .nil))) [("ring", 1), ("cog", 2)] [2]))
    .nil)
def N_value_key : List Str := ["fraction"]
def B_value_key : Ss := (.cons (.ret (.bin .FloorDiv (.bin .Mult (.ix (.var 0) (.int 0)) (.int 10000000)) (.ix (.var 0) (.int 1))))
    .nil)
def N_find_gears : List Str := ["bike", "key", "gear"]
def B_find_gears (k_find_ratio k_all_gears k_value_key : Nat) : Ss := (.cons (.ret (.lc (.var 2) (.tup [1, 2]) (.val (.blt .sorted (.cons (.lc (.tup (.cons (.call k_value_key (.cons (.call k_find_ratio (.cons (.var 0) (.cons (.var 2) .nil))) .nil)) (.cons (.var 2) .nil))) (.one 2) (.val (.call k_all_gears (.cons (.var 0) .nil))) [("gear", 2)]) .nil))) [("key", 1), ("gear", 2)]))
    .nil)
def N_gears : List Str := ["bike"]
def B_gears (k_check_bike k_find_gears : Nat) : Ss := (.cons (.drop (.call k_check_bike (.cons (.var 0) .nil)))
    (.cons (.ret (.call k_find_gears (.cons (.var 0) .nil)))
    .nil))
def N_check_stay : List Str := ["value"]
def B_check_stay (k_is_int : Nat) : Ss := (.cons (.ife (.nt (.call k_is_int (.cons (.var 0) (.cons (.glo "MIN_STAY" (.int 20)) (.cons (.glo "MAX_STAY" (.int 60)) .nil)))))
    (.cons (.rse "InvalidStay")
    .nil)
    .nil)
    .nil)
def N_twice_needed : List Str := ["bike", "gear", "stay"]
def B_twice_needed : Ss := (.cons (.ret (.bin .Add (.bin .Add (.bin .Mult (.int 4) (.var 2)) (.ix (.ix (.var 0) (.int 0)) (.ix (.var 1) (.int 0)))) (.ix (.ix (.var 0) (.int 1)) (.ix (.var 1) (.int 1)))))
    .nil)
def N_even_links : List Str := ["twice"]
def B_even_links : Ss := (.cons (.ret (.bin .Mult (.bin .FloorDiv (.bin .Add (.var 0) (.int 3)) (.int 4)) (.int 2)))
    .nil)
def N_links_for : List Str := ["bike", "gear", "stay"]
def B_links_for (k_check_bike k_check_gear k_check_stay k_twice_needed k_even_links : Nat) : Ss := (.cons (.drop (.call k_check_bike (.cons (.var 0) .nil)))
    (.cons (.drop (.call k_check_gear (.cons (.var 0) (.cons (.var 1) .nil))))
    (.cons (.drop (.call k_check_stay (.cons (.var 2) .nil)))
    (.cons (.ret (.call k_even_links (.cons (.call k_twice_needed (.cons (.var 0) (.cons (.var 1) (.cons (.var 2) .nil)))) .nil)))
    .nil))))
def N_chain_for : List Str := ["bike", "stay"]
def B_chain_for (k_check_bike k_check_stay k_twice_needed k_even_links : Nat) : Ss := (.cons (.drop (.call k_check_bike (.cons (.var 0) .nil)))
    (.cons (.drop (.call k_check_stay (.cons (.var 1) .nil)))
    (.cons (.ret (.call k_even_links (.cons (.call k_twice_needed (.cons (.var 0) (.cons (.tup (.cons (.bin .Sub (.blt .len (.cons (.ix (.var 0) (.int 0)) .nil)) (.int 1)) (.cons (.bin .Sub (.blt .len (.cons (.ix (.var 0) (.int 1)) .nil)) (.int 1)) .nil))) (.cons (.var 1) .nil)))) .nil)))
    .nil)))
def N_check_links : List Str := ["value"]
def B_check_links (k_is_int : Nat) : Ss := (.cons (.ife (.or (.nt (.call k_is_int (.cons (.var 0) (.cons (.int 2) (.cons (.glo "MAX_LINKS" (.int 200)) .nil))))) (.or1 (.cmp .Eq (.bin .Mod (.var 0) (.int 2)) (.int 1))))
    (.cons (.rse "InvalidLinks")
    .nil)
    .nil)
    .nil)
def N_slack : List Str := ["bike", "gear", "stay", "links"]
def B_slack (k_check_bike k_check_gear k_check_stay k_twice_needed k_check_links : Nat) : Ss := (.cons (.drop (.call k_check_bike (.cons (.var 0) .nil)))
    (.cons (.drop (.call k_check_gear (.cons (.var 0) (.cons (.var 1) .nil))))
    (.cons (.drop (.call k_check_stay (.cons (.var 2) .nil)))
    (.cons (.drop (.call k_check_links (.cons (.var 3) .nil)))
    (.cons (.ret (.bin .Sub (.bin .Mult (.int 2) (.var 3)) (.call k_twice_needed (.cons (.var 0) (.cons (.var 1) (.cons (.var 2) .nil))))))
    .nil)))))
def N_fitting : List Str := ["bike", "stay", "links", "most", "gear"]
def B_fitting (k_is_int k_check_bike k_all_gears k_check_stay k_twice_needed k_check_links : Nat) : Ss := (.cons (.drop (.call k_check_bike (.cons (.var 0) .nil)))
    (.cons (.drop (.call k_check_stay (.cons (.var 1) .nil)))
    (.cons (.drop (.call k_check_links (.cons (.var 2) .nil)))
    (.cons (.ife (.nt (.call k_is_int (.cons (.var 3) (.cons (.int 0) (.cons (.glo "MAX_SLACK" (.int 100)) .nil)))))
    (.cons (.rse "InvalidNumber")
    .nil)
    .nil)
    (.cons (.ret (.lcf (.var 4) (.one 4) (.val (.call k_all_gears (.cons (.var 0) .nil))) (.chn .LtE .LtE (.int 0) (.bin .Sub (.bin .Mult (.int 2) (.var 2)) (.call k_twice_needed (.cons (.var 0) (.cons (.var 4) (.cons (.var 1) .nil))))) (.var 3)) [("gear", 4)]))
    .nil)))))
def N__law_drawn : List Str := ["_law_script", "_law_k", "_law_many", "_law_cell", "_law_turn", "_law_rest"]
def B__law_drawn (fuel : Nat) : Ss := (.cons (.asg 3 (.bin .Mult (.int 7) (.var 1)))
    (.cons (.ife (.cmp .NotEq (.var 0) (.lst .nil))
    (.cons (.asg 3 (.ix (.var 0) (.bin .Mod (.var 1) (.blt .len (.cons (.var 0) .nil)))))
    (.cons (.asg 4 (.bin .FloorDiv (.var 1) (.blt .len (.cons (.var 0) .nil))))
    (.cons (.ife (.and (.cmp .GtE (.var 3) (.bin .Pow (.int 10) (.int 18))) (.and1 (.cmp .Lt (.var 4) (.int 60))))
    (.cons (.asg 5 (.bin .FloorDiv (.var 3) (.bin .Pow (.int 10) (.int 18))))
    (.cons (.whl fuel (.and (.cmp .Gt (.var 5) (.int 0)) (.and1 (.cmp .Gt (.var 4) (.int 0))))
    (.cons (.asg 5 (.bin .FloorDiv (.var 5) (.int 1000000)))
    (.cons (.asg 4 (.bin .Sub (.var 4) (.int 1)))
    .nil)))
    (.cons (.ife (.cmp .Gt (.var 5) (.int 0))
    (.cons (.ret (.bin .Mod (.bin .Mod (.var 5) (.int 1000000)) (.var 2)))
    .nil)
    .nil)
    .nil)))
    .nil)
    (.cons (.asg 3 (.bin .Add (.var 3) (.bin .Mult (.int 6553) (.bin .FloorDiv (.var 1) (.blt .len (.cons (.var 0) .nil))))))
    .nil))))
    .nil)
    (.cons (.asg 3 (.bin .Mod (.bin .Add (.bin .Mult (.bin .Mod (.var 3) (.int 2147483563)) (.int 69069)) (.bin .Mult (.int 104723) (.bin .Add (.var 1) (.int 1)))) (.int 2147483563)))
    (.cons (.asg 3 (.bin .Mod (.bin .Add (.bin .Mult (.var 3) (.var 3)) (.bin .FloorDiv (.var 3) (.int 3))) (.int 2147483399)))
    (.cons (.ret (.bin .Mod (.bin .FloorDiv (.bin .Mod (.bin .Add (.bin .Mult (.var 3) (.var 3)) (.bin .FloorDiv (.var 3) (.int 7))) (.int 2147483647)) (.int 11)) (.var 2)))
    .nil)))))
def N__law_bike : List Str := ["_law_script", "_law_at", "_law_k", "_law_rings", "_law_cogs", "_law_some"]
def B__law_bike (k__law_drawn : Nat) : Ss := (.cons (.par [3, 4] [(true, (.lst .nil)), (true, (.lst .nil))])
    (.cons (.for_ (.one 2) (.rng1 (.bin .Add (.int 1) (.call k__law_drawn (.cons (.var 0) (.cons (.var 1) (.cons (.int 3) .nil))))))
    (.cons (.asg 5 (.lst (.cons (.int 20) (.cons (.int 24) (.cons (.int 30) (.cons (.int 36) (.cons (.int 40) (.cons (.int 42) (.cons (.int 48) (.cons (.bin .Add (.int 11) (.call k__law_drawn (.cons (.var 0) (.cons (.bin .Add (.bin .Add (.var 1) (.int 2)) (.var 2)) (.cons (.int 50) .nil))))) .nil))))))))))
    (.cons (.app 3 (.ix (.var 5) (.call k__law_drawn (.cons (.var 0) (.cons (.bin .Add (.bin .Add (.var 1) (.int 5)) (.var 2)) (.cons (.int 8) .nil))))))
    .nil)))
    (.cons (.frz 3)
    (.cons (.for_ (.one 2) (.rng1 (.bin .Add (.int 1) (.call k__law_drawn (.cons (.var 0) (.cons (.bin .Add (.var 1) (.int 1)) (.cons (.int 5) .nil))))))
    (.cons (.asg 5 (.lst (.cons (.int 10) (.cons (.int 12) (.cons (.int 15) (.cons (.int 18) (.cons (.int 20) (.cons (.int 24) (.cons (.int 30) (.cons (.bin .Add (.int 8) (.call k__law_drawn (.cons (.var 0) (.cons (.bin .Add (.bin .Add (.var 1) (.int 8)) (.var 2)) (.cons (.int 43) .nil))))) .nil))))))))))
    (.cons (.app 4 (.ix (.var 5) (.call k__law_drawn (.cons (.var 0) (.cons (.bin .Add (.bin .Add (.var 1) (.int 14)) (.var 2)) (.cons (.int 8) .nil))))))
    .nil)))
    (.cons (.frz 4)
    (.cons (.ret (.tup (.cons (.blt .tuple (.cons (.sset (.var 3)) .nil)) (.cons (.blt .tuple (.cons (.sset (.var 4)) .nil)) .nil))))
    .nil))))))
/-! ### 25. lists -/
theorem mapR_ok {f : PyData → Res PyData} {g : PyData → PyData} : ∀ {xs : List PyData}, (∀ x ∈ xs, f x = .ok (g x)) → mapR f xs = .ok (xs.map g)
  | [], _ => rfl
  | x :: xs, h => by
    unfold mapR
    rw [h x List.mem_cons_self, mapR_ok fun y hy => h y (List.mem_cons_of_mem _ hy)]
    rfl
theorem filR_ok {c : PyData → Res Bool} {f : PyData → Res PyData} {p : PyData → Bool} {g : PyData → PyData} : ∀ {xs : List PyData}, (∀ x ∈ xs, c x = .ok (p x)) → (∀ x ∈ xs, p x = true → f x = .ok (g x)) → filR c f xs = .ok ((xs.filter p).map g)
  | [], _, _ => rfl
  | x :: xs, h, k => by
    unfold filR
    have ih := filR_ok (c := c) (f := f) (p := p) (g := g) (xs := xs) (fun y hy => h y (List.mem_cons_of_mem _ hy)) (fun y hy => k y (List.mem_cons_of_mem _ hy))
    rw [h x List.mem_cons_self, ih]
    cases hp : p x with
    | true =>
      rw [List.filter_cons_of_pos hp, k x List.mem_cons_self hp]
      rfl
    | false =>
      rw [List.filter_cons_of_neg (by rw [hp]; decide)]
      rfl
theorem flatR_ok {f : PyData → Res (List PyData)} {g : PyData → List PyData} : ∀ {xs : List PyData}, (∀ x ∈ xs, f x = .ok (g x)) → flatR f xs = .ok (xs.flatMap g)
  | [], _ => rfl
  | x :: xs, h => by
    unfold flatR
    rw [h x List.mem_cons_self, flatR_ok fun y hy => h y (List.mem_cons_of_mem _ hy)]
    rfl
theorem listD_few {xs : List PyData} (h : xs.length ≤ 1000000) : listD xs = .ok (.list xs) := if_pos (Nat.le_trans h (by decide))
theorem tupD_few {xs : List PyData} (h : xs.length ≤ 1000000) : tupD xs = .ok (.tuple xs) := if_pos (Nat.le_trans h (by decide))
@[simp] theorem tupD_1 (a : PyData) : tupD [a] = .ok (.tuple [a]) := tupD_few (by simp)
@[simp] theorem tupD_2 (a b : PyData) : tupD [a, b] = .ok (.tuple [a, b]) := tupD_few (by simp)
@[simp] theorem listD_0 : listD [] = .ok (.list []) := listD_few (by simp)
@[simp] theorem listD_1 (a : PyData) : listD [a] = .ok (.list [a]) := listD_few (by simp)
theorem allB_map {α : Type} (p : α → Bool) : ∀ xs : List α, allB (xs.map fun x => PyData.bool (p x)) = some (xs.map p)
  | [] => rfl
  | x :: xs => by
    rw [List.map_cons, List.map_cons]
    show (allB (xs.map fun x => PyData.bool (p x))).map (p x :: ·) = _
    rw [allB_map p xs]
    rfl
theorem allI_of (ns : List Int) : allI (ns.map PyData.int) = some ns := by
  induction ns with
  | nil => rfl
  | cons n ns ih => simp [allI, ih]
theorem blt_all {α : Type} (p : α → Bool) (xs : List α) : dBlt .all [.list (xs.map fun x => PyData.bool (p x))] = .ok (.bool (xs.all p)) := by
  show (match allB (xs.map fun x => PyData.bool (p x)) with
    | some bs => Res.ok (PyData.bool (bs.all id))
    | none => .no) = _
  rw [allB_map]
  simp [List.all_map, Function.comp_def]
theorem cut_from1 (xs : List PyData) : cutD xs (some 1) none = xs.drop 1 := by
  unfold cutD HT.sIx
  cases xs with
  | nil => simp
  | cons x r => simp
/-! ### 26. bicycles -/
def noDict : PyData → Bool
  | .dict _ => false
  | _ => true
def isIntD (v : PyData) (a b : Int) : Bool := match v with
  | .int i => decide (a ≤ i) && decide (i ≤ b)
  | _ => false
def m_is_int : List PyData → Res PyData
  | [v, .int a, .int b] => if noDict v = true then .ok (.bool (isIntD v a b)) else .no
  | _ => .no
theorem run_is_int (Γ : Tb) (v : PyData) (a b : Int) (h : noDict v = true) : runB Γ 3 B_is_int [v, .int a, .int b] = .ok (.bool (isIntD v a b)) := by
  cases v with
  | int i => by_cases h1 : a ≤ i <;> simp [runB, startV, B_is_int, dIsi, isTy, isIntD, h1]
  | dict _ => cases h
  | _ => simp [runB, startV, B_is_int, dIsi, isTy, isIntD]
theorem ok_is_int (Γ : Tb) (ds : List PyData) : m_is_int ds = .no ∨ runB Γ 3 B_is_int ds = m_is_int ds := by
  unfold m_is_int
  split
  · split
    · rename_i h
      exact .inr (run_is_int Γ _ _ _ h)
    · exact .inl rfl
  · exact .inl rfl
def rises : List Int → Bool
  | x :: y :: r => decide (x < y) && rises (y :: r)
  | _ => true
def teethD (v : PyData) (most least greatest : Int) : Bool := match v with
  | .tuple xs => decide (1 ≤ (xs.length : Int)) && decide ((xs.length : Int) ≤ most) && (xs.all fun x => isIntD x least greatest) && (match allI xs with
    | some ns => rises ns
    | none => false)
  | _ => false
def teethOk : PyData → Bool
  | .dict _ => false
  | .tuple xs => xs.all noDict && decide (xs.length ≤ 1000)
  | _ => true
def m_are_teeth : List PyData → Res PyData
  | [v, .int most, .int least, .int greatest] => if teethOk v = true then .ok (.bool (teethD v most least greatest)) else .no
  | _ => .no
theorem all_isInt {xs : List PyData} {a b : Int} (h : (xs.all fun x => isIntD x a b) = true) : ∃ ns : List Int, xs = ns.map .int ∧ ∀ n ∈ ns, a ≤ n ∧ n ≤ b := by
  induction xs with
  | nil => exact ⟨[], rfl, fun n hn => (nomatch hn)⟩
  | cons x xs ih =>
    rw [List.all_cons, Bool.and_eq_true] at h
    obtain ⟨ns, e, k⟩ := ih h.2
    cases x with
    | int i =>
      have h1 := h.1
      simp only [isIntD, Bool.and_eq_true, decide_eq_true_eq] at h1
      refine ⟨i :: ns, by rw [e]; rfl, fun n hn => ?_⟩
      rcases List.mem_cons.mp hn with rfl | hn
      · exact h1
      · exact k n hn
    | _ => simp [isIntD] at h
def ltP : PyData → Bool
  | .tuple [.int x, .int y] => decide (x < y)
  | _ => false
theorem rises_zip : ∀ ns : List Int, ((zipD (ns.map PyData.int) ((ns.map PyData.int).drop 1)).all ltP) = rises ns
  | [] => rfl
  | [x] => rfl
  | x :: y :: r => by
    have ih := rises_zip (y :: r)
    unfold rises
    rw [← ih]
    rfl
theorem zip_few {xs ys : List PyData} (h : xs.length ≤ 1000) : (zipD xs ys).length ≤ 1000000 := by
  unfold zipD
  simp only [List.length_map, List.length_zip]
  omega
theorem run_are_teeth (Γ : Tb) (k : Nat) (hk : (Γ k).run = m_is_int) (v : PyData) (most least greatest : Int) (h : teethOk v = true) :
    runB Γ 7 (B_are_teeth k) [v, .int most, .int least, .int greatest] = .ok (.bool (teethD v most least greatest)) := by
  cases v with
  | tuple xs =>
    simp only [teethOk, Bool.and_eq_true, decide_eq_true_eq, List.all_eq_true] at h
    by_cases h1 : 1 ≤ (xs.length : Int)
    · by_cases h2 : (xs.length : Int) ≤ most
      · have m1 : mapR (fun x => (Γ k).run [x, .int least, .int greatest]) xs = .ok (xs.map fun x => .bool (isIntD x least greatest)) := by
          refine mapR_ok fun x hx => ?_
          rw [hk]
          show (if noDict x = true then _ else _) = _
          rw [if_pos (h.1 x hx)]
        have l1 : (xs.map fun x => PyData.bool (isIntD x least greatest)).length ≤ 1000000 := by rw [List.length_map]; omega
        cases h3 : (xs.all fun x => isIntD x least greatest) with
        | true =>
          have m2 : mapR (fun x => (bindT (.tup [5, 6]) x [some (.v (.tuple xs)), some (.v (.int most)), some (.v (.int least)), some (.v (.int greatest)), none, none, none]).bind fun e' => (getV e' 5).bind fun x => (getV e' 6).bind fun y => resB (dCmp .Lt x y)) (zipD xs (xs.drop 1)) =
              .ok ((zipD xs (xs.drop 1)).map fun p => .bool (ltP p)) := by
            obtain ⟨ns, rfl, hn⟩ := all_isInt h3
            refine mapR_ok fun p hp => ?_
            unfold zipD at hp
            obtain ⟨q, hq, rfl⟩ := List.mem_map.mp hp
            have hm := List.of_mem_zip (show (q.1, q.2) ∈ _ from hq)
            obtain ⟨a, _, ha⟩ := List.mem_map.mp hm.1
            obtain ⟨b, _, hb⟩ := List.mem_map.mp (List.mem_of_mem_drop hm.2)
            rw [← ha, ← hb]
            simp [ltP]
          have l2 : ((zipD xs (xs.drop 1)).map fun p => PyData.bool (ltP p)).length ≤ 1000000 := by
            rw [List.length_map]
            exact zip_few h.2
          have h4 : teethD (.tuple xs) most least greatest = (zipD xs (xs.drop 1)).all ltP := by
            obtain ⟨ns, rfl, hn⟩ := all_isInt h3
            unfold teethD
            simp only [h3, h1, h2, allI_of, decide_true, Bool.true_and, rises_zip]
          rw [h4]
          simp only [runB, startV, B_are_teeth]
          simp [dIsi, isTy, h1, h2, m1, listD_few l1, blt_all, h3, dSlc, cut_from1, -List.drop_one, m2, listD_few l2]
        | false =>
          have h4 : teethD (.tuple xs) most least greatest = false := by
            unfold teethD
            simp [h3]
          rw [h4]
          simp [runB, startV, B_are_teeth, dIsi, isTy, h1, h2, m1, listD_few l1, blt_all, h3]
      · simp [runB, startV, B_are_teeth, dIsi, isTy, h1, h2, teethD]
    · simp [runB, startV, B_are_teeth, dIsi, isTy, h1, teethD]
  | dict _ => cases h
  | _ => simp [runB, startV, B_are_teeth, dIsi, isTy, teethD]
theorem ok_are_teeth (Γ : Tb) (k : Nat) (hk : (Γ k).run = m_is_int) (ds : List PyData) : m_are_teeth ds = .no ∨ runB Γ 7 (B_are_teeth k) ds = m_are_teeth ds := by
  unfold m_are_teeth
  split
  · split
    · rename_i h
      exact .inr (run_are_teeth Γ k hk _ _ _ _ h)
    · exact .inl rfl
  · exact .inl rfl
def m_are_rings : List PyData → Res PyData
  | [v] => if teethOk v = true then .ok (.bool (teethD v 3 10 60)) else .no
  | _ => .no
def m_are_cogs : List PyData → Res PyData
  | [v] => if teethOk v = true then .ok (.bool (teethD v 8 8 50)) else .no
  | _ => .no
theorem ok_are_rings (Γ : Tb) (k : Nat) (hk : (Γ k).run = m_are_teeth) (ds : List PyData) : m_are_rings ds = .no ∨ runB Γ 1 (B_are_rings k) ds = m_are_rings ds := by
  unfold m_are_rings
  split
  · split
    · rename_i h
      exact .inr (by simp [runB, startV, B_are_rings, hk, m_are_teeth, h])
    · exact .inl rfl
  · exact .inl rfl
theorem ok_are_cogs (Γ : Tb) (k : Nat) (hk : (Γ k).run = m_are_teeth) (ds : List PyData) : m_are_cogs ds = .no ∨ runB Γ 1 (B_are_cogs k) ds = m_are_cogs ds := by
  unfold m_are_cogs
  split
  · split
    · rename_i h
      exact .inr (by simp [runB, startV, B_are_cogs, hk, m_are_teeth, h])
    · exact .inl rfl
  · exact .inl rfl
def isBikeD : PyData → Bool
  | .tuple [a, b] => teethD a 3 10 60 && teethD b 8 8 50
  | _ => false
def bikeOk : PyData → Bool
  | .dict _ => false
  | .tuple [a, b] => teethOk a && teethOk b
  | _ => true
def m_is_bike : List PyData → Res PyData
  | [v] => if bikeOk v = true then .ok (.bool (isBikeD v)) else .no
  | _ => .no
theorem run_is_bike (Γ : Tb) (k j : Nat) (hk : (Γ k).run = m_are_rings) (hj : (Γ j).run = m_are_cogs) (v : PyData) (h : bikeOk v = true) : runB Γ 1 (B_is_bike k j) [v] = .ok (.bool (isBikeD v)) := by
  cases v with
  | tuple xs =>
    match xs, h with
    | [a, b], h =>
      simp only [bikeOk, Bool.and_eq_true] at h
      cases h1 : teethD a 3 10 60 <;> simp [runB, startV, B_is_bike, dIsi, isTy, hk, hj, m_are_rings, m_are_cogs, h.1, h.2, isBikeD, h1]
    | [], h => simp [runB, startV, B_is_bike, dIsi, isTy, isBikeD]
    | [a], h => simp [runB, startV, B_is_bike, dIsi, isTy, isBikeD]
    | a :: b :: c :: r, h =>
      have e : ¬ ((r.length : Int) + 1 + 1 + 1 = 2) := by omega
      simp [runB, startV, B_is_bike, dIsi, isTy, isBikeD, e]
  | dict _ => cases h
  | _ => simp [runB, startV, B_is_bike, dIsi, isTy, isBikeD]
theorem ok_is_bike (Γ : Tb) (k j : Nat) (hk : (Γ k).run = m_are_rings) (hj : (Γ j).run = m_are_cogs) (ds : List PyData) : m_is_bike ds = .no ∨ runB Γ 1 (B_is_bike k j) ds = m_is_bike ds := by
  unfold m_is_bike
  split
  · split
    · rename_i h
      exact .inr (run_is_bike Γ k j hk hj _ h)
    · exact .inl rfl
  · exact .inl rfl
def m_check_bike : List PyData → Res PyData
  | [v] => if bikeOk v = true then (if isBikeD v = true then .ok .none else .exc "InvalidBike") else .no
  | _ => .no
theorem ok_check_bike (Γ : Tb) (k : Nat) (hk : (Γ k).run = m_is_bike) (ds : List PyData) : m_check_bike ds = .no ∨ runB Γ 1 (B_check_bike k) ds = m_check_bike ds := by
  unfold m_check_bike
  split
  · split
    · rename_i v h
      refine .inr ?_
      cases h1 : isBikeD v <;> simp [runB, startV, B_check_bike, hk, m_is_bike, h, h1]
    · exact .inl rfl
  · exact .inl rfl
/-- a gear of a bicycle with that many rings, cogs -/
def hasGearD (n m : Nat) : PyData → Bool
  | .tuple [i, j] => isIntD i 0 ((n : Int) - 1) && isIntD j 0 ((m : Int) - 1)
  | _ => false
def gearOk : PyData → Bool
  | .dict _ => false
  | .tuple [a, b] => noDict a && noDict b
  | _ => true
def m_has_gear : List PyData → Res PyData
  | [.tuple [.tuple rs, .tuple cs], g] => if gearOk g = true then .ok (.bool (hasGearD rs.length cs.length g)) else .no
  | _ => .no
theorem run_has_gear (Γ : Tb) (k : Nat) (hk : (Γ k).run = m_is_int) (rs cs : List PyData) (v : PyData) (h : gearOk v = true) : runB Γ 2 (B_has_gear k) [.tuple [.tuple rs, .tuple cs], v] = .ok (.bool (hasGearD rs.length cs.length v)) := by
  cases v with
  | tuple xs =>
    match xs, h with
    | [a, b], h =>
      simp only [gearOk, Bool.and_eq_true] at h
      cases h1 : isIntD a 0 ((rs.length : Int) - 1) <;> simp [runB, startV, B_has_gear, dIsi, isTy, hk, m_is_int, h.1, h.2, hasGearD, h1]
    | [], h => simp [runB, startV, B_has_gear, dIsi, isTy, hasGearD]
    | [a], h => simp [runB, startV, B_has_gear, dIsi, isTy, hasGearD]
    | a :: b :: c :: r, h =>
      have e : ¬ ((r.length : Int) + 1 + 1 + 1 = 2) := by omega
      simp [runB, startV, B_has_gear, dIsi, isTy, hasGearD, e]
  | dict _ => cases h
  | _ => simp [runB, startV, B_has_gear, dIsi, isTy, hasGearD]
theorem ok_has_gear (Γ : Tb) (k : Nat) (hk : (Γ k).run = m_is_int) (ds : List PyData) : m_has_gear ds = .no ∨ runB Γ 2 (B_has_gear k) ds = m_has_gear ds := by
  unfold m_has_gear
  split
  · split
    · rename_i h
      exact .inr (run_has_gear Γ k hk _ _ _ h)
    · exact .inl rfl
  · exact .inl rfl
def m_check_gear : List PyData → Res PyData
  | [.tuple [.tuple rs, .tuple cs], g] => if gearOk g = true then (if hasGearD rs.length cs.length g = true then .ok .none else .exc "InvalidGear") else .no
  | _ => .no
theorem ok_check_gear (Γ : Tb) (k : Nat) (hk : (Γ k).run = m_has_gear) (ds : List PyData) : m_check_gear ds = .no ∨ runB Γ 2 (B_check_gear k) ds = m_check_gear ds := by
  unfold m_check_gear
  split
  · split
    · rename_i rs cs v h
      refine .inr ?_
      cases h1 : hasGearD rs.length cs.length v <;> simp [runB, startV, B_check_gear, hk, m_has_gear, h, h1]
    · exact .inl rfl
  · exact .inl rfl
/-! ratios -/
theorem gcd_step {a b : Int} (ha : 0 ≤ a) (hb : 0 < b) : (Int.gcd b (a % b) : Int) = Int.gcd a b := by
  obtain ⟨m, rfl⟩ := Int.eq_ofNat_of_zero_le ha
  obtain ⟨n, rfl⟩ := Int.eq_ofNat_of_zero_le (Int.le_of_lt hb)
  have e : ((m : Int) % (n : Int)) = ((m % n : Nat) : Int) := (Int.natCast_emod m n).symm
  have e1 : Int.gcd (n : Int) ((m : Int) % (n : Int)) = Nat.gcd n (m % n) := by rw [e]; rfl
  have e2 : Int.gcd (m : Int) (n : Int) = Nat.gcd m n := rfl
  rw [e1, e2, Nat.gcd_comm m n, Nat.gcd_rec n m, Nat.gcd_comm]
def m_divisor : List PyData → Res PyData
  | [.int a, .int b] => if 0 ≤ a ∧ 0 ≤ b ∧ b < 1000000000000 then .ok (.int (Int.gcd a b)) else .no
  | _ => .no
theorem whl_divisor (Γ : Tb) : ∀ (n : Nat) (a b : Int), 0 ≤ a → 0 ≤ b → b < n → whlR (fun e => (evE Γ (.cmp .Gt (.var 1) (.int 0)) e).bind asB) (fun e => evSs Γ (.cons (.par [0, 1] [(false, (.var 1)), (false, (.bin .Mod (.var 0) (.var 1)))]) .nil) e) n [some (.v (.int a)), some (.v (.int b))] =
    .ok (.nx [some (.v (.int (Int.gcd a b))), some (.v (.int 0))])
  | 0, a, b, _, h1, h2 => by omega
  | n + 1, a, b, h0, h1, h2 => by
    by_cases hb : 0 < b
    · have hm := Int.emod_nonneg a (by omega : b ≠ 0)
      have hl := Int.emod_lt_of_pos a hb
      have ih := whl_divisor Γ n b (a % b) (by omega) hm (by omega)
      have ge := gcd_step h0 hb
      rw [ge] at ih
      rw [← ih]
      exact whl_step (by simp [hb]) (by simp [bn_mod, hb])
    · have e : b = 0 := by omega
      subst e
      have e2 : ((Int.gcd a 0 : Nat) : Int) = a := by
        rw [Int.gcd_zero_right]
        omega
      rw [e2]
      exact whl_stop (by simp)
theorem ok_divisor (Γ : Tb) (ds : List PyData) : m_divisor ds = .no ∨ runB Γ 2 (B_divisor 1000000000000) ds = m_divisor ds := by
  unfold m_divisor
  split
  · split
    · rename_i a b h
      have hw : evS Γ (.whl 1000000000000 (.cmp .Gt (.var 1) (.int 0)) (.cons (.par [0, 1] [(false, (.var 1)), (false, (.bin .Mod (.var 0) (.var 1)))]) .nil)) [some (.v (.int a)), some (.v (.int b))] = _ := (ts_whl Γ _ _ _ _).trans (whl_divisor Γ 1000000000000 a b h.1 h.2.1 (by omega))
      exact .inr (by simp [runB, startV, B_divisor, hw])
    · exact .inl rfl
  · exact .inl rfl
def m_reduced : List PyData → Res PyData
  | [.int a, .int b] => if 0 ≤ a ∧ 0 < b ∧ b < 1000000000000 then .ok (.tuple [.int (a / Int.gcd a b), .int (b / Int.gcd a b)]) else .no
  | _ => .no
theorem gcd_small {a b : Int} (hb : 0 < b) (h : b < 1000000000000) : 0 < (Int.gcd a b : Int) ∧ ((Int.gcd a b : Int)).natAbs.log2 < 9000 := by
  have h1 : 0 < Int.gcd a b := Int.gcd_pos_of_ne_zero_right a (by omega)
  have h2 : (Int.gcd a b : Int) ≤ b := Int.le_of_dvd hb (Int.gcd_dvd_right a b)
  refine ⟨by omega, ?_⟩
  have h3 : ((Int.gcd a b : Int)).natAbs < 2 ^ 40 := by omega
  have := Nat.log2_lt (n := ((Int.gcd a b : Int)).natAbs) (k := 40) (by omega)
  have := this.mpr h3
  omega
theorem ok_reduced (Γ : Tb) (k : Nat) (hk : (Γ k).run = m_divisor) (ds : List PyData) : m_reduced ds = .no ∨ runB Γ 3 (B_reduced k) ds = m_reduced ds := by
  unfold m_reduced
  split
  · split
    · rename_i a b h
      have g := gcd_small (a := a) h.2.1 h.2.2
      have h2 : 0 ≤ a ∧ 0 ≤ b ∧ b < 1000000000000 := ⟨h.1, by omega, h.2.2⟩
      have d1 := bn_div a _ g
      have d2 := bn_div b _ g
      exact .inr (by simp [runB, startV, B_reduced, hk, m_divisor, h2, d1, d2])
    · exact .inl rfl
  · exact .inl rfl
/-- a bicycle by its rings and cogs; a gear -/
def bk (rs cs : List Int) : PyData := .tuple [.tuple (rs.map .int), .tuple (cs.map .int)]
def gT (p : Int × Int) : PyData := .tuple [.int p.1, .int p.2]
/-- the item at i -/
def at' (xs : List Int) (i : Int) : Int := xs.getD i.toNat 0
theorem atI_int {xs : List Int} {i : Int} (h0 : 0 ≤ i) (h1 : i < xs.length) : atI (xs.map PyData.int) i = some (.int (at' xs i)) := by
  rw [atI_nn h0, List.getElem?_map]
  have h2 : i.toNat < xs.length := by omega
  rw [List.getElem?_eq_getElem h2]
  simp [at', List.getD, List.getElem?_eq_getElem h2]
theorem dIx_int {xs : List Int} {i : Int} (h0 : 0 ≤ i) (h1 : i < xs.length) : dIx (.tuple (xs.map PyData.int)) (.int i) = .ok (.int (at' xs i)) := by
  unfold dIx
  simp only
  rw [atI_int h0 h1]
theorem at_mem {xs : List Int} {i : Int} (h0 : 0 ≤ i) (h1 : i < xs.length) : at' xs i ∈ xs := by
  have h2 : i.toNat < xs.length := by omega
  simp [at', List.getD, List.getElem?_eq_getElem h2]
/-- the teeth stand within the bounds -/
def BkOk (rs cs : List Int) : Prop := (isBikeD (bk rs cs) = true) ∧ (∀ x ∈ rs, 10 ≤ x ∧ x ≤ 60) ∧ (∀ x ∈ cs, 8 ≤ x ∧ x ≤ 50) ∧ 1 ≤ rs.length ∧ rs.length ≤ 3 ∧ 1 ≤ cs.length ∧ cs.length ≤ 8
def inG (rs cs : List Int) (p : Int × Int) : Prop := 0 ≤ p.1 ∧ p.1 < rs.length ∧ 0 ≤ p.2 ∧ p.2 < cs.length
instance (rs cs : List Int) (p : Int × Int) : Decidable (inG rs cs p) := by unfold inG; infer_instance
theorem bkOk_ok (rs cs : List Int) (h : rs.length ≤ 3 ∧ cs.length ≤ 8) : bikeOk (bk rs cs) = true := by
  have e : ∀ xs : List Int, ((xs.map PyData.int).all noDict) = true := fun xs => by
    rw [List.all_map]
    exact List.all_eq_true.mpr fun _ _ => rfl
  simp only [bk, bikeOk, teethOk, e, List.length_map, Bool.true_and, Bool.and_eq_true, decide_eq_true_eq]
  omega
def unI : PyData → Option (List Int)
  | .tuple xs => allI xs
  | _ => none
/-- a bicycle and a gear, read -/
def rdBG (b g : PyData) (f : List Int → List Int → Int → Int → Res PyData) : Res PyData := match b, g with
  | .tuple [.tuple a, .tuple c], .tuple [.int i, .int j] => match allI a, allI c with
    | some rs, some cs => f rs cs i j
    | _, _ => .no
  | _, _ => .no
theorem rdBG_eq (rs cs : List Int) (p : Int × Int) (f : List Int → List Int → Int → Int → Res PyData) : rdBG (bk rs cs) (gT p) f = f rs cs p.1 p.2 := by
  simp only [rdBG, bk, gT, allI_of]
theorem rdBG_no {b g : PyData} {f : List Int → List Int → Int → Int → Res PyData} : rdBG b g f = .no ∨ ∃ rs cs p, b = bk rs cs ∧ g = gT p := by
  unfold rdBG
  split
  · split
    · rename_i a c i j x y rs cs h1 h2
      have e1 := allI_map h1
      have e2 := allI_map h2
      subst e1 e2
      exact .inr ⟨rs, cs, (i, j), rfl, rfl⟩
    · exact .inl rfl
  · exact .inl rfl
def ratioD (rs cs : List Int) (i j : Int) : PyData := .tuple [.int (at' rs i / Int.gcd (at' rs i) (at' cs j)), .int (at' cs j / Int.gcd (at' rs i) (at' cs j))]
def m_find_ratio : List PyData → Res PyData
  | [b, g] => rdBG b g fun rs cs i j => if inG rs cs (i, j) ∧ 0 ≤ at' rs i ∧ 0 < at' cs j ∧ at' cs j < 1000000000000 then .ok (ratioD rs cs i j) else .no
  | _ => .no
theorem ok_find_ratio (Γ : Tb) (k : Nat) (hk : (Γ k).run = m_reduced) (ds : List PyData) : m_find_ratio ds = .no ∨ runB Γ 2 (B_find_ratio k) ds = m_find_ratio ds := by
  unfold m_find_ratio
  split
  · rename_i b g
    rcases rdBG_no (b := b) (g := g) (f := fun rs cs i j => if inG rs cs (i, j) ∧ 0 ≤ at' rs i ∧ 0 < at' cs j ∧ at' cs j < 1000000000000 then Res.ok (ratioD rs cs i j) else .no) with e | ⟨rs, cs, p, rfl, rfl⟩
    · exact .inl e
    · rw [rdBG_eq]
      split
      · rename_i h
        obtain ⟨⟨g1, g2, g3, g4⟩, h2⟩ := h
        have i1 := dIx_int g1 g2
        have i2 := dIx_int g3 g4
        exact .inr (by simp [runB, startV, B_find_ratio, bk, gT, i1, i2, hk, m_reduced, h2, ratioD])
      · exact .inl rfl
  · exact .inl rfl
/-- all gears -/
def gearsL (n m : Nat) : List (Int × Int) := (List.range n).flatMap fun (i : Nat) => (List.range m).map fun (j : Nat) => ((i : Int), (j : Int))
def m_all_gears : List PyData → Res PyData
  | [.tuple [.tuple a, .tuple c]] => if a.length ≤ 1000 ∧ c.length ≤ 1000 then .ok (.list ((gearsL a.length c.length).map gT)) else .no
  | _ => .no
theorem mem_gearsL {n m : Nat} {p : Int × Int} : p ∈ gearsL n m ↔ 0 ≤ p.1 ∧ p.1 < n ∧ 0 ≤ p.2 ∧ p.2 < m := by
  unfold gearsL
  simp only [List.mem_flatMap, List.mem_map, List.mem_range]
  constructor
  · rintro ⟨i, hi, j, hj, rfl⟩
    exact ⟨by simp, by simpa using hi, by simp, by simpa using hj⟩
  · rintro ⟨h1, h2, h3, h4⟩
    exact ⟨p.1.toNat, by omega, p.2.toNat, by omega, Prod.ext (by simp; omega) (by simp; omega)⟩
theorem flat_len {α β : Type} (m : Nat) (f : α → List β) (h : ∀ a, (f a).length = m) : ∀ l : List α, (l.flatMap f).length = l.length * m
  | [] => by simp
  | a :: l => by rw [List.flatMap_cons, List.length_append, h a, flat_len m f h l, List.length_cons, Nat.add_mul, Nat.one_mul, Nat.add_comm]
theorem gearsL_len (n m : Nat) : (gearsL n m).length = n * m := by
  unfold gearsL
  rw [flat_len m _ (fun a => by simp), List.length_range]
theorem p62 : (2 : Int) ^ 62 = 4611686018427387904 := by decide +kernel
theorem small62_few {n : Int} (h0 : 0 ≤ n) (h : n ≤ 1000000) : small62 n = true := by
  unfold small62
  refine @decide_eq_true _ (Classical.propDecidable _) ?_
  rw [p62]
  omega
end Cg

set_option maxHeartbeats 1000000
namespace Cg
open PySem PySem.Spec PyProof.Rows L2
theorem ok_all_gears (Γ : Tb) (ds : List PyData) : m_all_gears ds = .no ∨ runB Γ 3 B_all_gears ds = m_all_gears ds := by
  unfold m_all_gears
  split
  · split
    · rename_i a c h
      refine .inr ?_
      have s1 : small62 (a.length : Int) = true := small62_few (by omega) (by omega)
      have s2 : small62 (c.length : Int) = true := small62_few (by omega) (by omega)
      have hf : flatR (fun x => mapR (fun y => Res.ok (PyData.tuple [x, y])) (rangeD 0 c.length)) (rangeD 0 a.length) = .ok ((rangeD 0 a.length).flatMap fun x => (rangeD 0 c.length).map fun y => PyData.tuple [x, y]) :=
        flatR_ok fun x _ => mapR_ok fun y _ => rfl
      have e : ((rangeD 0 a.length).flatMap fun x => (rangeD 0 c.length).map fun y => PyData.tuple [x, y]) = (gearsL a.length c.length).map gT := by
        unfold rangeD gearsL
        simp [List.flatMap_map, List.map_flatMap, Function.comp_def, gT]
      rw [e] at hf
      have hl : ((gearsL a.length c.length).map gT).length ≤ 1000000 := by
        rw [List.length_map, gearsL_len]
        have := Nat.mul_le_mul h.1 h.2
        omega
      simp [runB, startV, B_all_gears, s1, s2, hf, listD_few hl]
    · exact .inl rfl
  · exact .inl rfl
def m_value_key : List PyData → Res PyData
  | [.tuple [.int a, .int b]] => if 0 < b ∧ b.natAbs.log2 < 9000 then .ok (.int (a * 10000000 / b)) else .no
  | _ => .no
theorem ok_value_key (Γ : Tb) (ds : List PyData) : m_value_key ds = .no ∨ runB Γ 1 B_value_key ds = m_value_key ds := by
  unfold m_value_key
  split
  · split
    · rename_i a b h
      have d1 := bn_div (a * 10000000) b h
      have d2 := bn_mulr a 10000000 (smallI_few (by decide) (by decide))
      exact .inr (by simp [runB, startV, B_value_key, d1, d2])
    · exact .inl rfl
  · exact .inl rfl
theorem lc_eq {Γ : Tb} {e : Ev} {elt : C} {tg : Tg} {it : It'} {ws : List (Str × Nat)} {xs : List PyData} {g : PyData → PyData} (hi : evI Γ it e = .ok xs) (hm : ∀ x ∈ xs, ((bindT tg x (wipeV e (ws.map (·.2)))).bind fun e' => evE Γ elt e') = .ok (g x)) (hz : xs.length ≤ 1000000) :
    evE Γ (.lc elt tg it ws) e = .ok (.list (xs.map g)) := by
  rw [ee_lc, hi, bind_ok, mapR_ok hm, lcR_ok, bind_ok]
  exact listD_few (by rw [List.length_map]; exact hz)
theorem lcf_eq {Γ : Tb} {e : Ev} {elt c : C} {tg : Tg} {it : It'} {ws : List (Str × Nat)} {xs : List PyData} {p : PyData → Bool} {g : PyData → PyData} (hi : evI Γ it e = .ok xs) (hc : ∀ x ∈ xs, ((bindT tg x (wipeV e (ws.map (·.2)))).bind fun e' => (evE Γ c e').bind asB) = .ok (p x))
    (hm : ∀ x ∈ xs, p x = true → ((bindT tg x (wipeV e (ws.map (·.2)))).bind fun e' => evE Γ elt e') = .ok (g x)) (hz : xs.length ≤ 1000000) : evE Γ (.lcf elt tg it c ws) e = .ok (.list ((xs.filter p).map g)) := by
  rw [ee_lcf, hi, bind_ok, filR_ok hc hm, lcR_ok, bind_ok]
  exact listD_few (by rw [List.length_map]; exact Nat.le_trans (List.length_filter_le _ _) hz)
def rdB (b : PyData) (f : List Int → List Int → Res PyData) : Res PyData := match b with
  | .tuple [.tuple a, .tuple c] => match allI a, allI c with
    | some rs, some cs => f rs cs
    | _, _ => .no
  | _ => .no
theorem rdB_eq (rs cs : List Int) (f : List Int → List Int → Res PyData) : rdB (bk rs cs) f = f rs cs := by
  simp only [rdB, bk, allI_of]
theorem rdB_no {b : PyData} {f : List Int → List Int → Res PyData} : rdB b f = .no ∨ ∃ rs cs, b = bk rs cs := by
  unfold rdB
  split
  · split
    · rename_i a c x y rs cs h1 h2
      have e1 := allI_map h1
      have e2 := allI_map h2
      subst e1 e2
      exact .inr ⟨rs, cs, rfl⟩
    · exact .inl rfl
  · exact .inl rfl
/-- a gear's key -/
def keyG (rs cs : List Int) (p : Int × Int) : Int := at' rs p.1 / Int.gcd (at' rs p.1) (at' cs p.2) * 10000000 / (at' cs p.2 / Int.gcd (at' rs p.1) (at' cs p.2))
def row (rs cs : List Int) (p : Int × Int) : PyData := .tuple [.int (keyG rs cs p), gT p]
def sndD : PyData → PyData
  | .tuple [_, g] => g
  | d => d
def findG (rs cs : List Int) : List PyData := (((gearsL rs.length cs.length).map (row rs cs)).mergeSort (PySem.W.dataLe false id)).map sndD
/-- in their order -/
theorem findG_perm (rs cs : List Int) : ∃ gs : List (Int × Int), findG rs cs = gs.map gT ∧ gs.Perm (gearsL rs.length cs.length) := by
  have e : (((gearsL rs.length cs.length).map (row rs cs)).mergeSort (PySem.W.dataLe false id)) = ((gearsL rs.length cs.length).mergeSort fun a b => PySem.W.dataLe false id (row rs cs a) (row rs cs b)).map (row rs cs) :=
    (PySem.W.sort_maps (row rs cs) fun _ _ _ _ => rfl).symm
  refine ⟨(gearsL rs.length cs.length).mergeSort fun a b => PySem.W.dataLe false id (row rs cs a) (row rs cs b), ?_, List.mergeSort_perm _ _⟩
  unfold findG
  rw [e, List.map_map]
  rfl
def bikeB (rs cs : List Int) : Bool := decide (rs.length ≤ 3) && decide (cs.length ≤ 8) && (rs.all fun x => decide (0 ≤ x) && decide (x ≤ 1000)) && (cs.all fun x => decide (1 ≤ x) && decide (x ≤ 1000))
theorem bikeB_ok {rs cs : List Int} (h : bikeB rs cs = true) : rs.length ≤ 3 ∧ cs.length ≤ 8 ∧ (∀ x ∈ rs, 0 ≤ x ∧ x ≤ 1000) ∧ ∀ x ∈ cs, 1 ≤ x ∧ x ≤ 1000 := by
  unfold bikeB at h
  simp only [Bool.and_eq_true, decide_eq_true_eq, List.all_eq_true] at h
  exact ⟨h.1.1.1, h.1.1.2, h.1.2, h.2⟩
def m_find_gears : List PyData → Res PyData
  | [b] => rdB b fun rs cs => if bikeB rs cs = true then .ok (.list (findG rs cs)) else .no
  | _ => .no
theorem gears_few {rs cs : List Int} (h1 : rs.length ≤ 3) (h2 : cs.length ≤ 8) : (gearsL rs.length cs.length).length ≤ 24 := by
  rw [gearsL_len]
  exact Nat.mul_le_mul h1 h2
theorem all_gears_at {Γ : Tb} {k : Nat} (hk : (Γ k).run = m_all_gears) {rs cs : List Int} (h1 : rs.length ≤ 3) (h2 : cs.length ≤ 8) : (Γ k).run [bk rs cs] = .ok (.list ((gearsL rs.length cs.length).map gT)) := by
  rw [hk]
  show (if (rs.map PyData.int).length ≤ 1000 ∧ (cs.map PyData.int).length ≤ 1000 then _ else _) = _
  rw [List.length_map, List.length_map, if_pos ⟨by omega, by omega⟩]
theorem ratio_at {Γ : Tb} {k : Nat} (hk : (Γ k).run = m_find_ratio) {rs cs : List Int} {p : Int × Int} (hb : bikeB rs cs = true) (hp : inG rs cs p) : (Γ k).run [bk rs cs, gT p] = .ok (ratioD rs cs p.1 p.2) := by
  obtain ⟨b1, b2, b3, b4⟩ := bikeB_ok hb
  obtain ⟨g1, g2, g3, g4⟩ := id hp
  have r1 := b3 _ (at_mem g1 g2)
  have r2 := b4 _ (at_mem g3 g4)
  rw [hk]
  simp only [m_find_ratio, rdBG_eq]
  rw [if_pos ⟨hp, by omega, by omega, by omega⟩]
theorem sortable_rows (rs cs : List Int) (ps : List (Int × Int)) : sortableD (ps.map (row rs cs)) = true := by
  unfold sortableD
  have e1 : PyData.plainAll (ps.map (row rs cs)) = true := by
    induction ps with
    | nil => rfl
    | cons p ps ih => simp [PyData.plainAll, PyData.plain, row, gT, ih]
  rw [e1]
  simp only [Bool.true_and, Bool.and_eq_true, Bool.or_eq_true, List.all_eq_true, decide_eq_true_eq]
  refine ⟨⟨fun d hd e he => ?_, fun d hd => ?_⟩, .inl fun d hd => ?_⟩
  · obtain ⟨p, _, rfl⟩ := List.mem_map.mp hd
    obtain ⟨q, _, rfl⟩ := List.mem_map.mp he
    rfl
  · obtain ⟨p, _, rfl⟩ := List.mem_map.mp hd
    simp [row, gT, PyData.depth, PyData.depthAll]
  · obtain ⟨p, _, rfl⟩ := List.mem_map.mp hd
    rfl
theorem ok_find_gears (Γ : Tb) (k1 k2 k3 : Nat) (h1 : (Γ k1).run = m_find_ratio) (h2 : (Γ k2).run = m_all_gears) (h3 : (Γ k3).run = m_value_key) (ds : List PyData) : m_find_gears ds = .no ∨ runB Γ 3 (B_find_gears k1 k2 k3) ds = m_find_gears ds := by
  unfold m_find_gears
  split
  · rename_i b
    rcases rdB_no (b := b) (f := fun rs cs => if bikeB rs cs = true then Res.ok (.list (findG rs cs)) else .no) with e | ⟨rs, cs, rfl⟩
    · exact .inl e
    · rw [rdB_eq]
      split
      · rename_i hb
        refine .inr ?_
        obtain ⟨b1, b2, b3, b4⟩ := bikeB_ok hb
        have few := gears_few b1 b2
        have inner : evE Γ (.lc (.tup (.cons (.call k3 (.cons (.call k1 (.cons (.var 0) (.cons (.var 2) .nil))) .nil)) (.cons (.var 2) .nil))) (.one 2) (.val (.call k2 (.cons (.var 0) .nil))) [("gear", 2)]) [some (.v (bk rs cs)), none, none] =
            .ok (.list (((gearsL rs.length cs.length).map gT).map fun g => match g with
              | .tuple [.int i, .int j] => row rs cs (i, j)
              | d => d)) := by
          refine lc_eq (by simp [all_gears_at h2 b1 b2]) (fun g hg => ?_) (by rw [List.length_map]; omega)
          obtain ⟨p, hp, rfl⟩ := List.mem_map.mp hg
          have hp2 : inG rs cs p := mem_gearsL.mp hp
          obtain ⟨g1, g2, g3, g4⟩ := id hp2
          have r1 := b3 _ (at_mem g1 g2)
          have r2 := b4 _ (at_mem g3 g4)
          have rt := ratio_at h1 hb hp2
          have vk : (Γ k3).run [ratioD rs cs p.1 p.2] = .ok (.int (keyG rs cs p)) := by
            rw [h3]
            show (if 0 < at' cs p.2 / Int.gcd (at' rs p.1) (at' cs p.2) ∧ (at' cs p.2 / Int.gcd (at' rs p.1) (at' cs p.2)).natAbs.log2 < 9000 then _ else _) = _
            rw [if_pos]
            · rfl
            · have g0 := gcd_small (a := at' rs p.1) (b := at' cs p.2) (by omega) (by omega)
              have dv : (Int.gcd (at' rs p.1) (at' cs p.2) : Int) ∣ at' cs p.2 := Int.gcd_dvd_right _ _
              have q1 : 0 < at' cs p.2 / Int.gcd (at' rs p.1) (at' cs p.2) := Int.ediv_pos_of_pos_of_dvd (by omega) (by omega) dv
              have q2 : at' cs p.2 / Int.gcd (at' rs p.1) (at' cs p.2) ≤ at' cs p.2 := Int.ediv_le_self _ (by omega)
              refine ⟨q1, ?_⟩
              have q3 : (at' cs p.2 / Int.gcd (at' rs p.1) (at' cs p.2)).natAbs < 2 ^ 10 := by omega
              have := (Nat.log2_lt (n := (at' cs p.2 / Int.gcd (at' rs p.1) (at' cs p.2)).natAbs) (k := 10) (by omega)).mpr q3
              omega
          simp [rt, vk]
          rfl
        have inner2 : (((gearsL rs.length cs.length).map gT).map fun g => match g with
              | .tuple [.int i, .int j] => row rs cs (i, j)
              | d => d) = (gearsL rs.length cs.length).map (row rs cs) := by
          rw [List.map_map]
          rfl
        rw [inner2] at inner
        have srt : dBlt .sorted [.list ((gearsL rs.length cs.length).map (row rs cs))] = .ok (.list (((gearsL rs.length cs.length).map (row rs cs)).mergeSort (PySem.W.dataLe false id))) := by
          show dSorted _ = _
          unfold dSorted
          rw [if_pos ⟨sortable_rows rs cs _, by rw [List.length_map]; exact Nat.le_trans few (by decide)⟩]
        have outer : evE Γ (.lc (.var 2) (.tup [1, 2]) (.val (.blt .sorted (.cons (.lc (.tup (.cons (.call k3 (.cons (.call k1 (.cons (.var 0) (.cons (.var 2) .nil))) .nil)) (.cons (.var 2) .nil))) (.one 2) (.val (.call k2 (.cons (.var 0) .nil))) [("gear", 2)]) .nil))) [("key", 1), ("gear", 2)]) [some (.v (bk rs cs)), none, none] = .ok (.list (findG rs cs)) := by
          refine lc_eq (g := sndD) (by simp [inner, srt, -ee_lc]) (fun g hg => ?_) (by rw [List.length_mergeSort, List.length_map]; omega)
          obtain ⟨p, hp, rfl⟩ := List.mem_map.mp ((List.mergeSort_perm _ _).mem_iff.mp hg)
          simp [row, sndD]
        simp [runB, startV, B_find_gears, outer, -ee_lc]
      · exact .inl rfl
  · exact .inl rfl
/-! ### 27. the defs of a whole bicycle -/
def okB (rs cs : List Int) : Bool := bikeB rs cs && isBikeD (bk rs cs)
theorem okB_ok {rs cs : List Int} (h : okB rs cs = true) : bikeB rs cs = true ∧ isBikeD (bk rs cs) = true := by
  unfold okB at h
  rw [Bool.and_eq_true] at h
  exact h
theorem check_bike_at {Γ : Tb} {k : Nat} (hk : (Γ k).run = m_check_bike) {rs cs : List Int} (h : okB rs cs = true) : (Γ k).run [bk rs cs] = .ok .none := by
  obtain ⟨h1, h2⟩ := okB_ok h
  obtain ⟨b1, b2, b3, b4⟩ := bikeB_ok h1
  rw [hk]
  simp only [m_check_bike, bkOk_ok rs cs ⟨b1, b2⟩, h2, if_true]
theorem check_gear_at {Γ : Tb} {k : Nat} (hk : (Γ k).run = m_check_gear) {rs cs : List Int} {p : Int × Int} (hp : inG rs cs p) : (Γ k).run [bk rs cs, gT p] = .ok .none := by
  obtain ⟨g1, g2, g3, g4⟩ := hp
  rw [hk]
  have e : hasGearD (rs.map PyData.int).length (cs.map PyData.int).length (gT p) = true := by
    simp only [hasGearD, gT, isIntD, List.length_map, Bool.and_eq_true, decide_eq_true_eq]
    omega
  show (if gearOk (gT p) = true then (if hasGearD (rs.map PyData.int).length (cs.map PyData.int).length (gT p) = true then Res.ok PyData.none else .exc "InvalidGear") else .no) = _
  rw [e]
  rfl
def m_gears : List PyData → Res PyData
  | [b] => rdB b fun rs cs => if okB rs cs = true then .ok (.list (findG rs cs)) else .no
  | _ => .no
theorem ok_gears (Γ : Tb) (k j : Nat) (hk : (Γ k).run = m_check_bike) (hj : (Γ j).run = m_find_gears) (ds : List PyData) : m_gears ds = .no ∨ runB Γ 1 (B_gears k j) ds = m_gears ds := by
  unfold m_gears
  split
  · rename_i b
    rcases rdB_no (b := b) (f := fun rs cs => if okB rs cs = true then Res.ok (.list (findG rs cs)) else .no) with e | ⟨rs, cs, rfl⟩
    · exact .inl e
    · rw [rdB_eq]
      split
      · rename_i hb
        have c1 := check_bike_at hk hb
        have c2 : (Γ j).run [bk rs cs] = .ok (.list (findG rs cs)) := by
          rw [hj]
          simp only [m_find_gears, rdB_eq, (okB_ok hb).1, if_true]
        exact .inr (by simp [runB, startV, B_gears, c1, c2])
      · exact .inl rfl
  · exact .inl rfl
/-! chains -/
def m_check_stay : List PyData → Res PyData
  | [v] => if noDict v = true then (if isIntD v 20 60 = true then .ok .none else .exc "InvalidStay") else .no
  | _ => .no
theorem ok_check_stay (Γ : Tb) (k : Nat) (hk : (Γ k).run = m_is_int) (ds : List PyData) : m_check_stay ds = .no ∨ runB Γ 1 (B_check_stay k) ds = m_check_stay ds := by
  unfold m_check_stay
  split
  · split
    · rename_i v h
      refine .inr ?_
      cases h1 : isIntD v 20 60 <;> simp [runB, startV, B_check_stay, hk, m_is_int, h, h1]
    · exact .inl rfl
  · exact .inl rfl
def twD (rs cs : List Int) (p : Int × Int) (s : Int) : Int := 4 * s + at' rs p.1 + at' cs p.2
def evenL (t : Int) : Int := (t + 3) / 4 * 2
def m_twice_needed : List PyData → Res PyData
  | [b, g, .int s] => rdBG b g fun rs cs i j => if inG rs cs (i, j) then .ok (.int (twD rs cs (i, j) s)) else .no
  | _ => .no
theorem ok_twice_needed (Γ : Tb) (ds : List PyData) : m_twice_needed ds = .no ∨ runB Γ 3 B_twice_needed ds = m_twice_needed ds := by
  unfold m_twice_needed
  split
  · rename_i b g s
    rcases rdBG_no (b := b) (g := g) (f := fun rs cs i j => if inG rs cs (i, j) then Res.ok (.int (twD rs cs (i, j) s)) else .no) with e | ⟨rs, cs, p, rfl, rfl⟩
    · exact .inl e
    · rw [rdBG_eq]
      split
      · rename_i h
        obtain ⟨g1, g2, g3, g4⟩ := h
        have i1 := dIx_int g1 g2
        have i2 := dIx_int g3 g4
        have m4 := bn_mulk 4 s (smallI_few (by decide) (by decide))
        exact .inr (by simp [runB, startV, B_twice_needed, bk, gT, i1, i2, m4, twD])
      · exact .inl rfl
  · exact .inl rfl
def m_even_links : List PyData → Res PyData
  | [.int t] => .ok (.int (evenL t))
  | _ => .no
theorem ok_even_links (Γ : Tb) (ds : List PyData) : m_even_links ds = .no ∨ runB Γ 1 B_even_links ds = m_even_links ds := by
  unfold m_even_links
  split
  · rename_i t
    have d1 := bn_div (t + 3) 4 (by decide)
    have d2 := bn_mulr ((t + 3) / 4) 2 (smallI_few (by decide) (by decide))
    exact .inr (by simp [runB, startV, B_even_links, d1, d2, evenL])
  · exact .inl rfl
def stayB (s : Int) : Bool := decide (20 ≤ s) && decide (s ≤ 60)
theorem check_stay_at {Γ : Tb} {k : Nat} (hk : (Γ k).run = m_check_stay) {s : Int} (h : stayB s = true) : (Γ k).run [.int s] = .ok .none := by
  rw [hk]
  have e : isIntD (.int s) 20 60 = true := h
  show (if noDict (.int s) = true then (if isIntD (.int s) 20 60 = true then Res.ok PyData.none else .exc "InvalidStay") else .no) = _
  rw [e]
  rfl
theorem twice_at {Γ : Tb} {k : Nat} (hk : (Γ k).run = m_twice_needed) {rs cs : List Int} {p : Int × Int} {s : Int} (hp : inG rs cs p) : (Γ k).run [bk rs cs, gT p, .int s] = .ok (.int (twD rs cs p s)) := by
  rw [hk]
  simp only [m_twice_needed, rdBG_eq]
  rw [if_pos hp]
theorem even_at {Γ : Tb} {k : Nat} (hk : (Γ k).run = m_even_links) (t : Int) : (Γ k).run [.int t] = .ok (.int (evenL t)) := by
  rw [hk]
  rfl
def m_links_for : List PyData → Res PyData
  | [b, g, .int s] => rdBG b g fun rs cs i j => if okB rs cs = true ∧ inG rs cs (i, j) ∧ stayB s = true then .ok (.int (evenL (twD rs cs (i, j) s))) else .no
  | _ => .no
theorem ok_links_for (Γ : Tb) (k1 k2 k3 k4 k5 : Nat) (h1 : (Γ k1).run = m_check_bike) (h2 : (Γ k2).run = m_check_gear) (h3 : (Γ k3).run = m_check_stay) (h4 : (Γ k4).run = m_twice_needed) (h5 : (Γ k5).run = m_even_links) (ds : List PyData) :
    m_links_for ds = .no ∨ runB Γ 3 (B_links_for k1 k2 k3 k4 k5) ds = m_links_for ds := by
  unfold m_links_for
  split
  · rename_i b g s
    rcases rdBG_no (b := b) (g := g) (f := fun rs cs i j => if okB rs cs = true ∧ inG rs cs (i, j) ∧ stayB s = true then Res.ok (.int (evenL (twD rs cs (i, j) s))) else .no) with e | ⟨rs, cs, p, rfl, rfl⟩
    · exact .inl e
    · rw [rdBG_eq]
      split
      · rename_i h
        have c1 := check_bike_at h1 h.1
        have c2 := check_gear_at h2 h.2.1
        have c3 := check_stay_at h3 h.2.2
        have c4 := twice_at (s := s) h4 h.2.1
        have c5 := even_at h5 (twD rs cs p s)
        exact .inr (by simp [runB, startV, B_links_for, c1, c2, c3, c4, c5])
      · exact .inl rfl
  · exact .inl rfl
/-- the last gear -/
def lastG (rs cs : List Int) : Int × Int := ((rs.length : Int) - 1, (cs.length : Int) - 1)
def m_chain_for : List PyData → Res PyData
  | [b, .int s] => rdB b fun rs cs => if okB rs cs = true ∧ inG rs cs (lastG rs cs) ∧ stayB s = true then .ok (.int (evenL (twD rs cs (lastG rs cs) s))) else .no
  | _ => .no
theorem ok_chain_for (Γ : Tb) (k1 k3 k4 k5 : Nat) (h1 : (Γ k1).run = m_check_bike) (h3 : (Γ k3).run = m_check_stay) (h4 : (Γ k4).run = m_twice_needed) (h5 : (Γ k5).run = m_even_links) (ds : List PyData) :
    m_chain_for ds = .no ∨ runB Γ 2 (B_chain_for k1 k3 k4 k5) ds = m_chain_for ds := by
  unfold m_chain_for
  split
  · rename_i b s
    rcases rdB_no (b := b) (f := fun rs cs => if okB rs cs = true ∧ inG rs cs (lastG rs cs) ∧ stayB s = true then Res.ok (.int (evenL (twD rs cs (lastG rs cs) s))) else .no) with e | ⟨rs, cs, rfl⟩
    · exact .inl e
    · rw [rdB_eq]
      split
      · rename_i h
        have c1 := check_bike_at h1 h.1
        have c3 := check_stay_at h3 h.2.2
        have c4 := twice_at (s := s) h4 h.2.1
        have c5 := even_at h5 (twD rs cs (lastG rs cs) s)
        have e : evE Γ (.tup (.cons (.bin .Sub (.blt .len (.cons (.ix (.var 0) (.int 0)) .nil)) (.int 1)) (.cons (.bin .Sub (.blt .len (.cons (.ix (.var 0) (.int 1)) .nil)) (.int 1)) .nil))) [some (.v (bk rs cs)), some (.v (.int s))] = .ok (gT (lastG rs cs)) := by
          simp [bk, gT, lastG]
        exact .inr (by simp [runB, startV, B_chain_for, c1, c3, c4, c5, e, -ee_tup])
      · exact .inl rfl
  · exact .inl rfl
def linkB (l : Int) : Bool := decide (2 ≤ l) && decide (l ≤ 200) && decide (l % 2 = 0)
def linkD : PyData → Bool
  | .int l => linkB l
  | _ => false
def m_check_links : List PyData → Res PyData
  | [v] => if noDict v = true then (if linkD v = true then .ok .none else .exc "InvalidLinks") else .no
  | _ => .no
theorem ok_check_links (Γ : Tb) (k : Nat) (hk : (Γ k).run = m_is_int) (ds : List PyData) : m_check_links ds = .no ∨ runB Γ 1 (B_check_links k) ds = m_check_links ds := by
  unfold m_check_links
  split
  · split
    · rename_i v h
      refine .inr ?_
      cases v with
      | int l =>
        have d1 := bn_mod l 2 (by decide)
        by_cases h1 : 2 ≤ l ∧ l ≤ 200
        · have e1 : isIntD (.int l) 2 200 = true := by simp [isIntD, h1]
          by_cases h2 : l % 2 = 1
          · have e2 : linkD (.int l) = false := by simp [linkD, linkB]; omega
            simp [runB, startV, B_check_links, hk, m_is_int, noDict, e1, d1, h2, e2]
          · have e2 : linkD (.int l) = true := by simp [linkD, linkB]; omega
            simp [runB, startV, B_check_links, hk, m_is_int, noDict, e1, d1, h2, e2]
        · have e1 : isIntD (.int l) 2 200 = false := by simp [isIntD]; omega
          have e2 : linkD (.int l) = false := by simp [linkD, linkB]; omega
          simp [runB, startV, B_check_links, hk, m_is_int, noDict, e1, e2]
      | dict _ => cases h
      | _ => simp [runB, startV, B_check_links, hk, m_is_int, noDict, isIntD, linkD]
    · exact .inl rfl
  · exact .inl rfl
theorem check_links_at {Γ : Tb} {k : Nat} (hk : (Γ k).run = m_check_links) {l : Int} (h : linkB l = true) : (Γ k).run [.int l] = .ok .none := by
  rw [hk]
  show (if noDict (.int l) = true then (if linkB l = true then Res.ok PyData.none else .exc "InvalidLinks") else .no) = _
  rw [h]
  rfl
def m_slack : List PyData → Res PyData
  | [b, g, .int s, .int l] => rdBG b g fun rs cs i j => if okB rs cs = true ∧ inG rs cs (i, j) ∧ stayB s = true ∧ linkB l = true then .ok (.int (2 * l - twD rs cs (i, j) s)) else .no
  | _ => .no
theorem ok_slack (Γ : Tb) (k1 k2 k3 k4 k5 : Nat) (h1 : (Γ k1).run = m_check_bike) (h2 : (Γ k2).run = m_check_gear) (h3 : (Γ k3).run = m_check_stay) (h4 : (Γ k4).run = m_twice_needed) (h5 : (Γ k5).run = m_check_links) (ds : List PyData) :
    m_slack ds = .no ∨ runB Γ 4 (B_slack k1 k2 k3 k4 k5) ds = m_slack ds := by
  unfold m_slack
  split
  · rename_i b g s l
    rcases rdBG_no (b := b) (g := g) (f := fun rs cs i j => if okB rs cs = true ∧ inG rs cs (i, j) ∧ stayB s = true ∧ linkB l = true then Res.ok (.int (2 * l - twD rs cs (i, j) s)) else .no) with e | ⟨rs, cs, p, rfl, rfl⟩
    · exact .inl e
    · rw [rdBG_eq]
      split
      · rename_i h
        have c1 := check_bike_at h1 h.1
        have c2 := check_gear_at h2 h.2.1
        have c3 := check_stay_at h3 h.2.2.1
        have c4 := twice_at (s := s) h4 h.2.1
        have c5 := check_links_at h5 h.2.2.2
        have m2 := bn_mulk 2 l (smallI_few (by decide) (by decide))
        exact .inr (by simp [runB, startV, B_slack, c1, c2, c3, c4, c5, m2])
      · exact .inl rfl
  · exact .inl rfl
def fitP (rs cs : List Int) (s l m : Int) (p : Int × Int) : Bool := decide (0 ≤ 2 * l - twD rs cs p s) && decide (2 * l - twD rs cs p s ≤ m)
def fitG (rs cs : List Int) (s l m : Int) : List (Int × Int) := (gearsL rs.length cs.length).filter (fitP rs cs s l m)
def m_fitting : List PyData → Res PyData
  | [b, .int s, .int l, .int m] => rdB b fun rs cs => if okB rs cs = true ∧ stayB s = true ∧ linkB l = true ∧ 0 ≤ m ∧ m ≤ 100 then .ok (.list ((fitG rs cs s l m).map gT)) else .no
  | _ => .no
/-- a gear read back -/
def gR : PyData → Int × Int
  | .tuple [.int i, .int j] => (i, j)
  | _ => (0, 0)
theorem ok_fitting (Γ : Tb) (k0 k1 k2 k3 k4 k5 : Nat) (h0 : (Γ k0).run = m_is_int) (h1 : (Γ k1).run = m_check_bike) (h2 : (Γ k2).run = m_all_gears) (h3 : (Γ k3).run = m_check_stay) (h4 : (Γ k4).run = m_twice_needed) (h5 : (Γ k5).run = m_check_links) (ds : List PyData) :
    m_fitting ds = .no ∨ runB Γ 5 (B_fitting k0 k1 k2 k3 k4 k5) ds = m_fitting ds := by
  unfold m_fitting
  split
  · rename_i b s l m
    rcases rdB_no (b := b) (f := fun rs cs => if okB rs cs = true ∧ stayB s = true ∧ linkB l = true ∧ 0 ≤ m ∧ m ≤ 100 then Res.ok (.list ((fitG rs cs s l m).map gT)) else .no) with e | ⟨rs, cs, rfl⟩
    · exact .inl e
    · rw [rdB_eq]
      split
      · rename_i h
        obtain ⟨q1, q2, q3, q4, q5⟩ := h
        obtain ⟨b1, b2, b3, b4⟩ := bikeB_ok (okB_ok q1).1
        have few := gears_few b1 b2
        have c1 := check_bike_at h1 q1
        have c3 := check_stay_at h3 q2
        have c5 := check_links_at h5 q3
        have e1 : isIntD (.int m) 0 100 = true := by simp [isIntD, q4, q5]
        have m2 := bn_mulk 2 l (smallI_few (by decide) (by decide))
        have inner : evE Γ (.lcf (.var 4) (.one 4) (.val (.call k2 (.cons (.var 0) .nil))) (.chn .LtE .LtE (.int 0) (.bin .Sub (.bin .Mult (.int 2) (.var 2)) (.call k4 (.cons (.var 0) (.cons (.var 4) (.cons (.var 1) .nil))))) (.var 3)) [("gear", 4)]) [some (.v (bk rs cs)), some (.v (.int s)), some (.v (.int l)), some (.v (.int m)), none] =
            .ok (.list ((((gearsL rs.length cs.length).map gT).filter fun g => fitP rs cs s l m (gR g)).map id)) := by
          refine lcf_eq (by simp [all_gears_at h2 b1 b2]) (fun g hg => ?_) (fun g hg _ => ?_) (by rw [List.length_map]; omega)
          · obtain ⟨p, hp, rfl⟩ := List.mem_map.mp hg
            have c4 := twice_at (s := s) h4 (mem_gearsL.mp hp)
            have er : gR (gT p) = p := rfl
            by_cases t1 : twD rs cs p s ≤ 2 * l
            · simp [c4, m2, t1, fitP, er]
            · simp [c4, m2, t1, fitP, er]
          · simp
        have e9 : (((gearsL rs.length cs.length).map gT).filter fun g => fitP rs cs s l m (gR g)).map id = (fitG rs cs s l m).map gT := by
          rw [List.map_id, List.filter_map]
          rfl
        rw [e9] at inner
        exact .inr (by simp [runB, startV, B_fitting, c1, c3, c5, h0, m_is_int, noDict, e1, inner, -ee_lcf])
      · exact .inl rfl
  · exact .inl rfl
end Cg

set_option maxHeartbeats 1000000
namespace Cg
open PySem PySem.Spec PyProof.Rows L2
/-! ### 28. what the law draws -/
theorem small_div {b : Int} (h : 0 < b) (h2 : b < 1000000000000) : 0 < b ∧ b.natAbs.log2 < 9000 := by
  refine ⟨h, ?_⟩
  have h3 : b.natAbs < 2 ^ 40 := by omega
  have := (Nat.log2_lt (n := b.natAbs) (k := 40) (by omega)).mpr h3
  omega
theorem div18 : 0 < (1000000000000000000 : Int) ∧ ((1000000000000000000 : Int)).natAbs.log2 < 9000 := by decide +kernel
theorem pow18 : dBin .Pow (.int 10) (.int 18) = .ok (.int 1000000000000000000) := by
  show (if (0 : Int) ≤ 18 ∧ (18 : Int) ≤ 1000 ∧ (10 : Int).natAbs < 2 ^ 64 then Res.ok (PyData.int (10 ^ ((18 : Int)).toNat)) else .no) = _
  rw [if_pos (by decide)]
  have e : (10 : Int) ^ ((18 : Int)).toNat = 1000000000000000000 := by decide +kernel
  rw [e]
theorem dIx_list {xs : List Int} {i : Int} (h0 : 0 ≤ i) (h1 : i < xs.length) : dIx (.list (xs.map PyData.int)) (.int i) = .ok (.int (at' xs i)) := by
  unfold dIx
  simp only
  rw [atI_int h0 h1]
theorem plainAll_ints : ∀ ns : List Int, PyData.plainAll (ns.map PyData.int) = true
  | [] => rfl
  | n :: ns => by simp [PyData.plainAll, PyData.plain, plainAll_ints ns]
theorem depthAll_ints : ∀ ns : List Int, PyData.depthAll (ns.map PyData.int) ≤ 1
  | [] => by simp [PyData.depthAll]
  | n :: ns => by
    have := depthAll_ints ns
    simp [PyData.depthAll, PyData.depth]
    omega
theorem okD_ints (ns : List Int) : okD (.list (ns.map .int)) = true := by
  unfold okD
  have := depthAll_ints ns
  rw [Bool.and_eq_true]
  refine ⟨by simpa [PyData.plain] using plainAll_ints ns, decide_eq_true ?_⟩
  simp [PyData.depth]
  omega
theorem ne_nil (ns : List Int) : dCmp .NotEq (.list (ns.map .int)) (.list []) = .ok (!ns.isEmpty) := by
  show (if okD (.list (ns.map .int)) = true ∧ okD (.list []) = true then Res.ok (!PyData.eqv (.list (ns.map .int)) (.list [])) else .no) = _
  rw [if_pos ⟨okD_ints ns, rfl⟩]
  cases ns <;> simp [PyData.eqv, PyData.eqvAll]
/-- the end of a draw -/
def finF (k many c : Int) : Int :=
  let c1 := (c % 2147483563 * 69069 + 104723 * (k + 1)) % 2147483563
  let c2 := (c1 * c1 + c1 / 3) % 2147483399
  (c2 * c2 + c2 / 7) % 2147483647 / 11 % many
def loopR : Nat → Int → Int → Int × Int
  | 0, r, t => (r, t)
  | n + 1, r, t => if 0 < r ∧ 0 < t then loopR n (r / 1000000) (t - 1) else (r, t)
def drawnF (ns : List Int) (k many : Int) : Int :=
  if ns = [] then finF k many (7 * k) else
  if 1000000000000000000 ≤ at' ns (k % ns.length) ∧ k / ns.length < 60 then
    (if 0 < (loopR 60 (at' ns (k % ns.length) / 1000000000000000000) (k / ns.length)).1 then (loopR 60 (at' ns (k % ns.length) / 1000000000000000000) (k / ns.length)).1 % 1000000 % many
      else finF k many (at' ns (k % ns.length) + 6553 * (k / ns.length)))
  else finF k many (at' ns (k % ns.length) + 6553 * (k / ns.length))
theorem drawnF_ok {ns : List Int} {k many : Int} (h : 0 < many) : 0 ≤ drawnF ns k many ∧ drawnF ns k many < many := by
  have f : ∀ c, 0 ≤ finF k many c ∧ finF k many c < many := fun c => ⟨Int.emod_nonneg _ (by omega), Int.emod_lt_of_pos _ h⟩
  unfold drawnF
  split
  · exact f _
  · split
    · split
      · exact ⟨Int.emod_nonneg _ (by omega), Int.emod_lt_of_pos _ h⟩
      · exact f _
    · exact f _
def tailD : Ss := (.cons (.asg 3 (.bin .Mod (.bin .Add (.bin .Mult (.bin .Mod (.var 3) (.int 2147483563)) (.int 69069)) (.bin .Mult (.int 104723) (.bin .Add (.var 1) (.int 1)))) (.int 2147483563)))
    (.cons (.asg 3 (.bin .Mod (.bin .Add (.bin .Mult (.var 3) (.var 3)) (.bin .FloorDiv (.var 3) (.int 3))) (.int 2147483399)))
    (.cons (.ret (.bin .Mod (.bin .FloorDiv (.bin .Mod (.bin .Add (.bin .Mult (.var 3) (.var 3)) (.bin .FloorDiv (.var 3) (.int 7))) (.int 2147483647)) (.int 11)) (.var 2)))
    .nil)))
theorem tail_run (Γ : Tb) (s : Option Sl) (k many c : Int) (t r : Option Sl) (h : 0 < many) : evSs Γ tailD [s, some (.v (.int k)), some (.v (.int many)), some (.v (.int c)), t, r] = .ok (.rt (.int (finF k many c))) := by
  have d1 := bn_mod c 2147483563 (by decide)
  have d2 := bn_mulr (c % 2147483563) 69069 (smallI_few (by decide) (by decide))
  have d3 := bn_mulk 104723 (k + 1) (smallI_few (by decide) (by decide))
  generalize hc1 : (c % 2147483563 * 69069 + 104723 * (k + 1)) % 2147483563 = c1
  have d4 : dBin .Mod (.int (c % 2147483563 * 69069 + 104723 * (k + 1))) (.int 2147483563) = .ok (.int c1) := by rw [← hc1]; exact bn_mod _ _ (by decide)
  have b1 : 0 ≤ c1 ∧ c1 < 2147483563 := by rw [← hc1]; exact ⟨Int.emod_nonneg _ (by decide), Int.emod_lt_of_pos _ (by decide)⟩
  have d5 := bn_mulk c1 c1 (smallI_few (by omega) (by omega))
  have d6 := bn_div c1 3 (by decide)
  generalize hc2 : (c1 * c1 + c1 / 3) % 2147483399 = c2
  have d7 : dBin .Mod (.int (c1 * c1 + c1 / 3)) (.int 2147483399) = .ok (.int c2) := by rw [← hc2]; exact bn_mod _ _ (by decide)
  have b2 : 0 ≤ c2 ∧ c2 < 2147483399 := by rw [← hc2]; exact ⟨Int.emod_nonneg _ (by decide), Int.emod_lt_of_pos _ (by decide)⟩
  have d8 := bn_mulk c2 c2 (smallI_few (by omega) (by omega))
  have d9 := bn_div c2 7 (by decide)
  have d10 := bn_mod (c2 * c2 + c2 / 7) 2147483647 (by decide)
  have d11 := bn_div ((c2 * c2 + c2 / 7) % 2147483647) 11 (by decide)
  have d12 := bn_mod ((c2 * c2 + c2 / 7) % 2147483647 / 11) many h
  have e : finF k many c = (c2 * c2 + c2 / 7) % 2147483647 / 11 % many := by
    unfold finF
    simp only [hc1, hc2]
  rw [e]
  simp [tailD, d1, d2, d3, d4, d5, d6, d7, d8, d9, d10, d11, d12]
theorem whl_drawn (Γ : Tb) (s0 s1 s2 s3 : Option Sl) : ∀ (n : Nat) (r t : Int), 0 ≤ t → t ≤ n → whlR (fun e => (evE Γ (.and (.cmp .Gt (.var 5) (.int 0)) (.and1 (.cmp .Gt (.var 4) (.int 0)))) e).bind asB) (fun e => evSs Γ (.cons (.asg 5 (.bin .FloorDiv (.var 5) (.int 1000000))) (.cons (.asg 4 (.bin .Sub (.var 4) (.int 1))) .nil)) e) (n + 1) [s0, s1, s2, s3, some (.v (.int t)), some (.v (.int r))] =
    .ok (.nx [s0, s1, s2, s3, some (.v (.int (loopR n r t).2)), some (.v (.int (loopR n r t).1))])
  | 0, r, t, h0, h1 => by
    have e : t = 0 := by omega
    subst e
    by_cases hr : 0 < r <;> exact whl_stop (by simp [hr])
  | n + 1, r, t, h0, h1 => by
    unfold loopR
    by_cases h : 0 < r ∧ 0 < t
    · rw [if_pos h]
      have d := bn_div r 1000000 (by decide)
      have ih := whl_drawn Γ s0 s1 s2 s3 n (r / 1000000) (t - 1) (by omega) (by omega)
      rw [← ih]
      exact whl_step (by simp [h]) (by simp [d])
    · rw [if_neg h]
      by_cases hr : 0 < r
      · have ht : ¬ 0 < t := fun z => h ⟨hr, z⟩
        exact whl_stop (by simp [hr, ht])
      · exact whl_stop (by simp [hr])
def innerD : S := (.ife (.cmp .Gt (.var 5) (.int 0))
    (.cons (.ret (.bin .Mod (.bin .Mod (.var 5) (.int 1000000)) (.var 2)))
    .nil)
    .nil)
def ifD : S := (.ife (.cmp .NotEq (.var 0) (.lst .nil))
    (.cons (.asg 3 (.ix (.var 0) (.bin .Mod (.var 1) (.blt .len (.cons (.var 0) .nil)))))
    (.cons (.asg 4 (.bin .FloorDiv (.var 1) (.blt .len (.cons (.var 0) .nil))))
    (.cons (.ife (.and (.cmp .GtE (.var 3) (.bin .Pow (.int 10) (.int 18))) (.and1 (.cmp .Lt (.var 4) (.int 60))))
    (.cons (.asg 5 (.bin .FloorDiv (.var 3) (.bin .Pow (.int 10) (.int 18))))
    (.cons (.whl 61 (.and (.cmp .Gt (.var 5) (.int 0)) (.and1 (.cmp .Gt (.var 4) (.int 0))))
    (.cons (.asg 5 (.bin .FloorDiv (.var 5) (.int 1000000)))
    (.cons (.asg 4 (.bin .Sub (.var 4) (.int 1)))
    .nil)))
    (.cons innerD
    .nil)))
    .nil)
    (.cons (.asg 3 (.bin .Add (.var 3) (.bin .Mult (.int 6553) (.bin .FloorDiv (.var 1) (.blt .len (.cons (.var 0) .nil))))))
    .nil))))
    .nil)
theorem run_drawn (Γ : Tb) (ns : List Int) (k many : Int) (hk : 0 ≤ k) (hm : 0 < many) (few : ns.length ≤ 63) : runB Γ 6 (B__law_drawn 61) [.list (ns.map .int), .int k, .int many] = .ok (.int (drawnF ns k many)) := by
  have eB : B__law_drawn 61 = .cons (.asg 3 (.bin .Mult (.int 7) (.var 1))) (.cons ifD tailD) := rfl
  have e0 : startV 6 [.list (ns.map .int), .int k, .int many] = [some (.v (.list (ns.map .int))), some (.v (.int k)), some (.v (.int many)), none, none, none] := rfl
  have s1 : evS Γ (.asg 3 (.bin .Mult (.int 7) (.var 1))) [some (.v (.list (ns.map .int))), some (.v (.int k)), some (.v (.int many)), none, none, none] = .ok (.nx [some (.v (.list (ns.map .int))), some (.v (.int k)), some (.v (.int many)), some (.v (.int (7 * k))), none, none]) := by
    have d := bn_mulk 7 k (smallI_few (by decide) (by decide))
    simp [d]
  unfold runB
  rw [eB, e0, tt_cons, s1, thenS_nx, tt_cons]
  have nn := ne_nil ns
  unfold drawnF
  by_cases hn : ns = []
  · subst hn
    have s2 : evS Γ ifD [some (.v (.list (([] : List Int).map .int))), some (.v (.int k)), some (.v (.int many)), some (.v (.int (7 * k))), none, none] = .ok (.nx [some (.v (.list (([] : List Int).map .int))), some (.v (.int k)), some (.v (.int many)), some (.v (.int (7 * k))), none, none]) := by
      have nn2 : dCmp .NotEq (.list []) (.list []) = .ok false := nn
      simp [ifD, nn2]
    rw [s2, thenS_nx, tail_run _ _ _ _ _ _ _ hm, if_pos rfl]
    rfl
  · rw [if_neg hn]
    have hl : 0 < (ns.length : Int) := by
      have := List.length_pos_iff.mpr hn
      omega
    have nn2 : dCmp .NotEq (.list (ns.map .int)) (.list []) = .ok true := by
      rw [nn]
      cases ns with
      | nil => exact absurd rfl hn
      | cons _ _ => rfl
    have d1 := bn_mod k ns.length hl
    have i0 := Int.emod_nonneg k (by omega : (ns.length : Int) ≠ 0)
    have i1 := Int.emod_lt_of_pos k hl
    have x1 := dIx_list (xs := ns) i0 i1
    have d2 := bn_div k ns.length (small_div hl (by omega))
    have ll : dBlt .len [.list (ns.map .int)] = .ok (.int ns.length) := by rw [ln_l, List.length_map]
    generalize at' ns (k % ns.length) = cell at x1 ⊢
    generalize ht : k / (ns.length : Int) = turn at d2 ⊢
    have t0 : 0 ≤ turn := by rw [← ht]; exact Int.ediv_nonneg hk (by omega)
    have d3 := bn_mulk 6553 turn (smallI_few (by decide) (by decide))
    have fin : ∀ (a b : Option Sl), thenS Γ (.ok (.nx [some (.v (.list (ns.map .int))), some (.v (.int k)), some (.v (.int many)), some (.v (.int (cell + 6553 * turn))), a, b])) tailD = .ok (.rt (.int (finF k many (cell + 6553 * turn)))) := fun a b => by
      rw [thenS_nx, tail_run _ _ _ _ _ _ _ hm]
    by_cases hc : 1000000000000000000 ≤ cell ∧ turn < 60
    · rw [if_pos hc]
      have d4 := bn_div cell 1000000000000000000 div18
      have hw : evS Γ (.whl 61 (.and (.cmp .Gt (.var 5) (.int 0)) (.and1 (.cmp .Gt (.var 4) (.int 0))))
    (.cons (.asg 5 (.bin .FloorDiv (.var 5) (.int 1000000)))
    (.cons (.asg 4 (.bin .Sub (.var 4) (.int 1)))
    .nil))) [some (.v (.list (ns.map .int))), some (.v (.int k)), some (.v (.int many)), some (.v (.int cell)), some (.v (.int turn)), some (.v (.int (cell / 1000000000000000000)))] = _ := (ts_whl Γ _ _ _ _).trans (whl_drawn Γ _ _ _ _ 60 (cell / 1000000000000000000) turn t0 (by omega))
      generalize loopR 60 (cell / 1000000000000000000) turn = q at hw ⊢
      by_cases hq : 0 < q.1
      · rw [if_pos hq]
        have d5 := bn_mod q.1 1000000 (by decide)
        have d6 := bn_mod (q.1 % 1000000) many hm
        have s2 : evS Γ ifD [some (.v (.list (ns.map .int))), some (.v (.int k)), some (.v (.int many)), some (.v (.int (7 * k))), none, none] = .ok (.rt (.int (q.1 % 1000000 % many))) := by
          simp [ifD, innerD, nn2, ll, d1, x1, d2, pow18, hc, d4, hw, hq, d5, d6]
        rw [s2]
        rfl
      · rw [if_neg hq]
        have s2 : evS Γ ifD [some (.v (.list (ns.map .int))), some (.v (.int k)), some (.v (.int many)), some (.v (.int (7 * k))), none, none] = .ok (.nx [some (.v (.list (ns.map .int))), some (.v (.int k)), some (.v (.int many)), some (.v (.int (cell + 6553 * turn))), some (.v (.int q.2)), some (.v (.int q.1))]) := by
          simp [ifD, innerD, nn2, ll, d1, x1, d2, pow18, hc, d4, hw, hq, d3]
        rw [s2, fin]
        rfl
    · rw [if_neg hc]
      have s2 : evS Γ ifD [some (.v (.list (ns.map .int))), some (.v (.int k)), some (.v (.int many)), some (.v (.int (7 * k))), none, none] = .ok (.nx [some (.v (.list (ns.map .int))), some (.v (.int k)), some (.v (.int many)), some (.v (.int (cell + 6553 * turn))), some (.v (.int turn)), none]) := by
        by_cases h1 : 1000000000000000000 ≤ cell
        · have h2 : ¬ turn < 60 := fun z => hc ⟨h1, z⟩
          simp [ifD, nn2, ll, d1, x1, d2, pow18, h1, h2, d3]
        · simp [ifD, nn2, ll, d1, x1, d2, pow18, h1, d3]
      rw [s2, fin]
      rfl
def m__law_drawn : List PyData → Res PyData
  | [.list xs, .int k, .int many] => match allI xs with
    | some ns => if 0 ≤ k ∧ 0 < many ∧ ns.length ≤ 63 then .ok (.int (drawnF ns k many)) else .no
    | none => .no
  | _ => .no
theorem ok__law_drawn (Γ : Tb) (ds : List PyData) : m__law_drawn ds = .no ∨ runB Γ 6 (B__law_drawn 61) ds = m__law_drawn ds := by
  unfold m__law_drawn
  split
  · split
    · rename_i xs k many x ns e
      have e := allI_map e
      subst e
      split
      · rename_i h
        exact .inr (run_drawn Γ ns k many h.1 h.2.1 h.2.2)
      · exact .inl rfl
    · exact .inl rfl
  · exact .inl rfl
theorem drawn_at {Γ : Tb} {k : Nat} (hk : (Γ k).run = m__law_drawn) {ns : List Int} {a m : Int} (h0 : 0 ≤ a) (hm : 0 < m) (few : ns.length ≤ 63) : (Γ k).run [.list (ns.map .int), .int a, .int m] = .ok (.int (drawnF ns a m)) := by
  rw [hk]
  simp only [m__law_drawn, allI_of]
  rw [if_pos ⟨h0, hm, few⟩]
end Cg

set_option maxHeartbeats 1000000
namespace Cg
open PySem PySem.Spec PyProof.Rows L2
/-! ### 29. the bicycle that the law draws -/
theorem for_build {F : PyData → Ev → Res Fl} (mk : Option Sl → List PyData → Option Sl → Ev) (g : Nat → PyData) (h : ∀ (j : Nat) kk acc sm, acc.length ≤ 1000 → ∃ sm', F (.int (0 + (j : Int))) (mk kk acc sm) = .ok (.nx (mk (some (.v (.int (0 + (j : Int))))) (acc ++ [g j]) sm'))) :
    ∀ (m j : Nat) kk acc sm, acc.length + m ≤ 1000 → ∃ kk' sm', forR F ((List.range' j m).map fun (k : Nat) => .int (0 + (k : Int))) (mk kk acc sm) = .ok (.nx (mk kk' (acc ++ (List.range' j m).map g) sm'))
  | 0, j, kk, acc, sm, _ => ⟨kk, sm, by simp [forR]⟩
  | m + 1, j, kk, acc, sm, hl => by
    obtain ⟨sm1, e1⟩ := h j kk acc sm (by omega)
    obtain ⟨kk2, sm2, e2⟩ := for_build mk g h m (j + 1) (some (.v (.int (0 + (j : Int))))) (acc ++ [g j]) sm1 (by rw [List.length_append, List.length_singleton]; omega)
    refine ⟨kk2, sm2, ?_⟩
    rw [List.range'_succ, List.map_cons, List.map_cons]
    unfold forR
    rw [e1, bind_ok]
    simp only
    rw [e2, List.append_assoc]
    rfl
theorem range_at (n : Int) : rangeD 0 n = (List.range' 0 n.toNat).map fun (k : Nat) => .int (0 + (k : Int)) := by
  unfold rangeD
  rw [Int.sub_zero, List.range_eq_range']
/-- sorted(set(xs)) of ints -/
def ssetI (ns : List Int) : List Int := (dd ns).mergeSort fun a b => decide (a ≤ b)
theorem dd_len (ns : List Int) : (dd ns).length ≤ ns.length := by
  have gen : ∀ (l acc : List Int), (l.foldl (fun acc y => if y ∈ acc then acc else acc ++ [y]) acc).length ≤ acc.length + l.length := by
    intro l
    induction l with
    | nil => intro acc; simp
    | cons y l ih =>
      intro acc
      rw [List.foldl_cons, List.length_cons]
      by_cases h : y ∈ acc
      · rw [if_pos h]
        have := ih acc
        omega
      · rw [if_neg h]
        have := ih (acc ++ [y])
        rw [List.length_append, List.length_singleton] at this
        omega
  have := gen ns []
  simpa [dd] using this
theorem ssetI_ok (ns : List Int) : (ssetI ns).length ≤ ns.length ∧ (∀ x, x ∈ ssetI ns ↔ x ∈ ns) ∧ (ssetI ns).Pairwise (· < ·) := by
  obtain ⟨d1, d2⟩ := dd_ok ns
  have p := List.mergeSort_perm (dd ns) fun a b => decide (a ≤ b)
  refine ⟨by rw [ssetI, List.length_mergeSort]; exact dd_len ns, fun x => by rw [ssetI, p.mem_iff, d2], ?_⟩
  have s : (ssetI ns).Pairwise fun a b => decide (a ≤ b) = true := List.pairwise_mergeSort (fun a b c h1 h2 => by rw [decide_eq_true_eq] at *; omega) (fun a b => by rw [Bool.or_eq_true, decide_eq_true_eq, decide_eq_true_eq]; omega) _
  have n : (ssetI ns).Nodup := p.nodup_iff.mpr d1
  exact List.Pairwise.imp₂ (fun a b h1 h2 => by rw [decide_eq_true_eq] at h1; omega) s n
theorem sset_ints (ns : List Int) (few : ns.length < 64) : dSset (.list (ns.map .int)) = .ok (.list ((ssetI ns).map .int)) := by
  have h1 : setable (ns.map PyData.int) = true := by
    unfold setable
    rw [allI_of]
    simp
    omega
  show (if setable (ns.map PyData.int) = true then dSorted (ddup (ns.map PyData.int)) else .no) = _
  rw [if_pos h1, ddup_map PyData.int eqv_int]
  have h2 : sortableD ((dd ns).map PyData.int) = true := by
    unfold sortableD
    rw [plainAll_ints]
    simp only [Bool.true_and, Bool.and_eq_true, Bool.or_eq_true, List.all_eq_true, decide_eq_true_eq]
    refine ⟨⟨fun d hd e he => ?_, fun d hd => ?_⟩, .inr fun d hd => ?_⟩
    · obtain ⟨a, _, rfl⟩ := List.mem_map.mp hd
      obtain ⟨b, _, rfl⟩ := List.mem_map.mp he
      rfl
    · obtain ⟨a, _, rfl⟩ := List.mem_map.mp hd
      simp [PyData.depth]
    · obtain ⟨a, _, rfl⟩ := List.mem_map.mp hd
      rfl
  have h3 := dd_len ns
  unfold dSorted
  rw [if_pos ⟨h2, by rw [List.length_map]; exact Nat.le_trans (by omega : (dd ns).length ≤ 64) (by decide)⟩]
  unfold ssetI
  rw [PySem.W.sort_maps PyData.int (r := fun a b => decide (a ≤ b)) fun a _ b _ => le_int_d a b]
theorem rises_of : ∀ {ns : List Int}, ns.Pairwise (· < ·) → rises ns = true
  | [], _ => rfl
  | [x], _ => rfl
  | x :: y :: r, h => by
    unfold rises
    rw [List.pairwise_cons] at h
    rw [rises_of h.2, decide_eq_true (h.1 y List.mem_cons_self)]
    rfl
theorem teeth_ok {ns : List Int} {most least greatest : Int} (h1 : 1 ≤ ns.length) (h2 : (ns.length : Int) ≤ most) (h3 : ∀ x ∈ ns, least ≤ x ∧ x ≤ greatest) (h4 : ns.Pairwise (· < ·)) : teethD (.tuple (ns.map .int)) most least greatest = true := by
  have e : ((ns.map PyData.int).all fun x => isIntD x least greatest) = true := by
    rw [List.all_eq_true]
    intro x hx
    obtain ⟨n, hn, rfl⟩ := List.mem_map.mp hx
    have := h3 n hn
    simp [isIntD, this]
  unfold teethD
  simp only [e, allI_of, rises_of h4, List.length_map, Bool.and_true, Bool.and_eq_true, decide_eq_true_eq]
  exact ⟨by omega, h2⟩
def ringS (d : Int) : List Int := [20, 24, 30, 36, 40, 42, 48, 11 + d]
def cogS (d : Int) : List Int := [10, 12, 15, 18, 20, 24, 30, 8 + d]
def ringL (ns : List Int) (a : Int) : List Int := (List.range' 0 (1 + drawnF ns a 3).toNat).map fun (j : Nat) => at' (ringS (drawnF ns (a + 2 + (0 + (j : Int))) 50)) (drawnF ns (a + 5 + (0 + (j : Int))) 8)
def cogL (ns : List Int) (a : Int) : List Int := (List.range' 0 (1 + drawnF ns (a + 1) 5).toNat).map fun (j : Nat) => at' (cogS (drawnF ns (a + 8 + (0 + (j : Int))) 43)) (drawnF ns (a + 14 + (0 + (j : Int))) 8)
def ringsF (ns : List Int) (a : Int) : List Int := ssetI (ringL ns a)
def cogsF (ns : List Int) (a : Int) : List Int := ssetI (cogL ns a)
theorem ringL_ok (ns : List Int) (a : Int) : 1 ≤ (ringL ns a).length ∧ (ringL ns a).length ≤ 3 ∧ ∀ x ∈ ringL ns a, 11 ≤ x ∧ x ≤ 60 := by
  have d := drawnF_ok (ns := ns) (k := a) (many := 3) (by decide)
  refine ⟨?_, ?_, fun x hx => ?_⟩
  · rw [ringL, List.length_map, List.length_range']; omega
  · rw [ringL, List.length_map, List.length_range']; omega
  · obtain ⟨j, _, rfl⟩ := List.mem_map.mp hx
    have d1 := drawnF_ok (ns := ns) (k := a + 2 + (0 + (j : Int))) (many := 50) (by decide)
    have d2 := drawnF_ok (ns := ns) (k := a + 5 + (0 + (j : Int))) (many := 8) (by decide)
    have m := at_mem (xs := ringS (drawnF ns (a + 2 + (0 + (j : Int))) 50)) d2.1 (by simpa [ringS] using d2.2)
    generalize at' (ringS (drawnF ns (a + 2 + (0 + (j : Int))) 50)) (drawnF ns (a + 5 + (0 + (j : Int))) 8) = v at m ⊢
    simp only [ringS, List.mem_cons, List.not_mem_nil, or_false] at m
    omega
theorem cogL_ok (ns : List Int) (a : Int) : 1 ≤ (cogL ns a).length ∧ (cogL ns a).length ≤ 5 ∧ ∀ x ∈ cogL ns a, 8 ≤ x ∧ x ≤ 50 := by
  have d := drawnF_ok (ns := ns) (k := a + 1) (many := 5) (by decide)
  refine ⟨?_, ?_, fun x hx => ?_⟩
  · rw [cogL, List.length_map, List.length_range']; omega
  · rw [cogL, List.length_map, List.length_range']; omega
  · obtain ⟨j, _, rfl⟩ := List.mem_map.mp hx
    have d1 := drawnF_ok (ns := ns) (k := a + 8 + (0 + (j : Int))) (many := 43) (by decide)
    have d2 := drawnF_ok (ns := ns) (k := a + 14 + (0 + (j : Int))) (many := 8) (by decide)
    have m := at_mem (xs := cogS (drawnF ns (a + 8 + (0 + (j : Int))) 43)) d2.1 (by simpa [cogS] using d2.2)
    generalize at' (cogS (drawnF ns (a + 8 + (0 + (j : Int))) 43)) (drawnF ns (a + 14 + (0 + (j : Int))) 8) = v at m ⊢
    simp only [cogS, List.mem_cons, List.not_mem_nil, or_false] at m
    omega
theorem sset_pos {ns : List Int} (h : 1 ≤ ns.length) : 1 ≤ (ssetI ns).length := by
  obtain ⟨_, m, _⟩ := ssetI_ok ns
  cases ns with
  | nil => simp at h
  | cons x r =>
    have := (m x).mpr List.mem_cons_self
    exact List.length_pos_of_mem this
structure Drawn (rs cs : List Int) : Prop where
  r1 : 1 ≤ rs.length
  r2 : rs.length ≤ 3
  r3 : ∀ x ∈ rs, 10 ≤ x ∧ x ≤ 60
  r4 : rs.Pairwise (· < ·)
  c1 : 1 ≤ cs.length
  c2 : cs.length ≤ 8
  c3 : ∀ x ∈ cs, 8 ≤ x ∧ x ≤ 50
  c4 : cs.Pairwise (· < ·)
theorem Drawn.ok {rs cs : List Int} (d : Drawn rs cs) : okB rs cs = true := by
  have h1 := d.r2
  have h2 := d.c2
  have t1 := teeth_ok (most := 3) d.r1 (by omega) d.r3 d.r4
  have t2 := teeth_ok (most := 8) d.c1 (by omega) d.c3 d.c4
  have b : bikeB rs cs = true := by
    unfold bikeB
    simp only [Bool.and_eq_true, decide_eq_true_eq, List.all_eq_true]
    exact ⟨⟨⟨h1, h2⟩, fun x hx => by have := d.r3 x hx; omega⟩, fun x hx => by have := d.c3 x hx; omega⟩
  unfold okB
  rw [b, Bool.true_and]
  simp only [bk, isBikeD, t1, t2, Bool.and_self]
theorem drawn_bike (ns : List Int) (a : Int) : Drawn (ringsF ns a) (cogsF ns a) := by
  obtain ⟨a1, a2, a3⟩ := ringL_ok ns a
  obtain ⟨b1, b2, b3⟩ := cogL_ok ns a
  obtain ⟨p1, p2, p3⟩ := ssetI_ok (ringL ns a)
  obtain ⟨q1, q2, q3⟩ := ssetI_ok (cogL ns a)
  exact ⟨sset_pos a1, Nat.le_trans p1 a2, fun x hx => by have := a3 x ((p2 x).mp hx); omega, p3, sset_pos b1, Nat.le_trans q1 (by omega), fun x hx => b3 x ((q2 x).mp hx), q3⟩
theorem run_bike (Γ : Tb) (k : Nat) (hk : (Γ k).run = m__law_drawn) (ns : List Int) (a : Int) (ha : 0 ≤ a) (few : ns.length ≤ 63) : runB Γ 6 (B__law_bike k) [.list (ns.map .int), .int a] = .ok (bk (ringsF ns a) (cogsF ns a)) := by
  have dr : ∀ (i m : Int), 0 ≤ i → 0 < m → (Γ k).run [.list (ns.map .int), .int i, .int m] = .ok (.int (drawnF ns i m)) := fun i m h0 h1 => drawn_at hk h0 h1 few
  have e0 : startV 6 [.list (ns.map .int), .int a] = [some (.v (.list (ns.map .int))), some (.v (.int a)), none, none, none, none] := rfl
  obtain ⟨a1, a2, a3⟩ := ringL_ok ns a
  obtain ⟨b1, b2, b3⟩ := cogL_ok ns a
  have n1 := drawnF_ok (ns := ns) (k := a) (many := 3) (by decide)
  have n2 := drawnF_ok (ns := ns) (k := a + 1) (many := 5) (by decide)
  -- the first loop
  obtain ⟨kk1, sm1, w1⟩ := for_build (F := fun x e => (bindT (.one 2) x e).bind fun e' => evSs Γ (.cons (.asg 5 (.lst (.cons (.int 20) (.cons (.int 24) (.cons (.int 30) (.cons (.int 36) (.cons (.int 40) (.cons (.int 42) (.cons (.int 48) (.cons (.bin .Add (.int 11) (.call k (.cons (.var 0) (.cons (.bin .Add (.bin .Add (.var 1) (.int 2)) (.var 2)) (.cons (.int 50) .nil))))) .nil))))))))))
    (.cons (.app 3 (.ix (.var 5) (.call k (.cons (.var 0) (.cons (.bin .Add (.bin .Add (.var 1) (.int 5)) (.var 2)) (.cons (.int 8) .nil))))))
    .nil)) e') (mk := fun kk acc sm => [some (.v (.list (ns.map .int))), some (.v (.int a)), kk, some (.l acc), some (.l []), sm]) (g := fun j => .int (at' (ringS (drawnF ns (a + 2 + (0 + (j : Int))) 50)) (drawnF ns (a + 5 + (0 + (j : Int))) 8)))
      (fun j kk acc sm hl => by
        have c1 := dr (a + 2 + (0 + (j : Int))) 50 (by omega) (by decide)
        have c2 := dr (a + 5 + (0 + (j : Int))) 8 (by omega) (by decide)
        have d2 := drawnF_ok (ns := ns) (k := a + 5 + (0 + (j : Int))) (many := 8) (by decide)
        generalize drawnF ns (a + 2 + (0 + (j : Int))) 50 = x1 at c1 ⊢
        generalize drawnF ns (a + 5 + (0 + (j : Int))) 8 = x2 at c2 d2 ⊢
        have ix := dIx_list (xs := ringS x1) d2.1 (by simpa [ringS] using d2.2)
        have ix2 : dIx (.list [.int 20, .int 24, .int 30, .int 36, .int 40, .int 42, .int 48, .int (11 + x1)]) (.int x2) = .ok (.int (at' (ringS x1) x2)) := ix
        have l8 : listD [.int 20, .int 24, .int 30, .int 36, .int 40, .int 42, .int 48, .int (11 + x1)] = .ok (.list [.int 20, .int 24, .int 30, .int 36, .int 40, .int 42, .int 48, .int (11 + x1)]) := listD_few (by simp)
        have z : acc.length < sizeLine := Nat.lt_of_le_of_lt hl (by decide)
        generalize 0 + (j : Int) = jj at c1 c2 ⊢
        exact ⟨_, by simp [c1, l8, c2, ix2, z]; rfl⟩) (1 + drawnF ns a 3).toNat 0 none [] none (by simp; omega)
  rw [List.nil_append] at w1
  have f1 : evS Γ (.for_ (.one 2) (.rng1 (.bin .Add (.int 1) (.call k (.cons (.var 0) (.cons (.var 1) (.cons (.int 3) .nil))))))
    (.cons (.asg 5 (.lst (.cons (.int 20) (.cons (.int 24) (.cons (.int 30) (.cons (.int 36) (.cons (.int 40) (.cons (.int 42) (.cons (.int 48) (.cons (.bin .Add (.int 11) (.call k (.cons (.var 0) (.cons (.bin .Add (.bin .Add (.var 1) (.int 2)) (.var 2)) (.cons (.int 50) .nil))))) .nil))))))))))
    (.cons (.app 3 (.ix (.var 5) (.call k (.cons (.var 0) (.cons (.bin .Add (.bin .Add (.var 1) (.int 5)) (.var 2)) (.cons (.int 8) .nil))))))
    .nil))) [some (.v (.list (ns.map .int))), some (.v (.int a)), none, some (.l []), some (.l []), none] = .ok (.nx [some (.v (.list (ns.map .int))), some (.v (.int a)), kk1, some (.l ((ringL ns a).map .int)), some (.l []), sm1]) := by
    have e1 : evI Γ (.rng1 (.bin .Add (.int 1) (.call k (.cons (.var 0) (.cons (.var 1) (.cons (.int 3) .nil)))))) [some (.v (.list (ns.map .int))), some (.v (.int a)), none, some (.l []), some (.l []), none] = .ok (rangeD 0 (1 + drawnF ns a 3)) := by
      have c1 := dr a 3 ha (by decide)
      have s6 := small62_few (n := 1 + drawnF ns a 3) (by omega) (by omega)
      simp [c1, s6]
    rw [ts_for, e1, bind_ok, range_at, w1]
    unfold ringL
    rw [List.map_map]
    rfl
  obtain ⟨kk2, sm2, w2⟩ := for_build (F := fun x e => (bindT (.one 2) x e).bind fun e' => evSs Γ (.cons (.asg 5 (.lst (.cons (.int 10) (.cons (.int 12) (.cons (.int 15) (.cons (.int 18) (.cons (.int 20) (.cons (.int 24) (.cons (.int 30) (.cons (.bin .Add (.int 8) (.call k (.cons (.var 0) (.cons (.bin .Add (.bin .Add (.var 1) (.int 8)) (.var 2)) (.cons (.int 43) .nil))))) .nil))))))))))
    (.cons (.app 4 (.ix (.var 5) (.call k (.cons (.var 0) (.cons (.bin .Add (.bin .Add (.var 1) (.int 14)) (.var 2)) (.cons (.int 8) .nil))))))
    .nil)) e') (mk := fun kk acc sm => [some (.v (.list (ns.map .int))), some (.v (.int a)), kk, some (.v (.list ((ringL ns a).map .int))), some (.l acc), sm]) (g := fun j => .int (at' (cogS (drawnF ns (a + 8 + (0 + (j : Int))) 43)) (drawnF ns (a + 14 + (0 + (j : Int))) 8)))
      (fun j kk acc sm hl => by
        have c1 := dr (a + 8 + (0 + (j : Int))) 43 (by omega) (by decide)
        have c2 := dr (a + 14 + (0 + (j : Int))) 8 (by omega) (by decide)
        have d2 := drawnF_ok (ns := ns) (k := a + 14 + (0 + (j : Int))) (many := 8) (by decide)
        generalize drawnF ns (a + 8 + (0 + (j : Int))) 43 = x1 at c1 ⊢
        generalize drawnF ns (a + 14 + (0 + (j : Int))) 8 = x2 at c2 d2 ⊢
        have ix := dIx_list (xs := cogS x1) d2.1 (by simpa [cogS] using d2.2)
        have ix2 : dIx (.list [.int 10, .int 12, .int 15, .int 18, .int 20, .int 24, .int 30, .int (8 + x1)]) (.int x2) = .ok (.int (at' (cogS x1) x2)) := ix
        have l8 : listD [.int 10, .int 12, .int 15, .int 18, .int 20, .int 24, .int 30, .int (8 + x1)] = .ok (.list [.int 10, .int 12, .int 15, .int 18, .int 20, .int 24, .int 30, .int (8 + x1)]) := listD_few (by simp)
        have z : acc.length < sizeLine := Nat.lt_of_le_of_lt hl (by decide)
        generalize 0 + (j : Int) = jj at c1 c2 ⊢
        exact ⟨_, by simp [c1, l8, c2, ix2, z]; rfl⟩) (1 + drawnF ns (a + 1) 5).toNat 0 kk1 [] sm1 (by simp; omega)
  rw [List.nil_append] at w2
  have f2 : evS Γ (.for_ (.one 2) (.rng1 (.bin .Add (.int 1) (.call k (.cons (.var 0) (.cons (.bin .Add (.var 1) (.int 1)) (.cons (.int 5) .nil))))))
    (.cons (.asg 5 (.lst (.cons (.int 10) (.cons (.int 12) (.cons (.int 15) (.cons (.int 18) (.cons (.int 20) (.cons (.int 24) (.cons (.int 30) (.cons (.bin .Add (.int 8) (.call k (.cons (.var 0) (.cons (.bin .Add (.bin .Add (.var 1) (.int 8)) (.var 2)) (.cons (.int 43) .nil))))) .nil))))))))))
    (.cons (.app 4 (.ix (.var 5) (.call k (.cons (.var 0) (.cons (.bin .Add (.bin .Add (.var 1) (.int 14)) (.var 2)) (.cons (.int 8) .nil))))))
    .nil))) [some (.v (.list (ns.map .int))), some (.v (.int a)), kk1, some (.v (.list ((ringL ns a).map .int))), some (.l []), sm1] = .ok (.nx [some (.v (.list (ns.map .int))), some (.v (.int a)), kk2, some (.v (.list ((ringL ns a).map .int))), some (.l ((cogL ns a).map .int)), sm2]) := by
    have e1 : evI Γ (.rng1 (.bin .Add (.int 1) (.call k (.cons (.var 0) (.cons (.bin .Add (.var 1) (.int 1)) (.cons (.int 5) .nil)))))) [some (.v (.list (ns.map .int))), some (.v (.int a)), kk1, some (.v (.list ((ringL ns a).map .int))), some (.l []), sm1] = .ok (rangeD 0 (1 + drawnF ns (a + 1) 5)) := by
      have c1 := dr (a + 1) 5 (by omega) (by decide)
      have s6 := small62_few (n := 1 + drawnF ns (a + 1) 5) (by omega) (by omega)
      simp [c1, s6]
    rw [ts_for, e1, bind_ok, range_at, w2]
    unfold cogL
    rw [List.map_map]
    rfl
  have t1 := sset_ints (ringL ns a) (by omega)
  have t2 := sset_ints (cogL ns a) (by omega)
  have u : ∀ xs : List PyData, dBlt .tuple [.list xs] = .ok (.tuple xs) := fun _ => rfl
  simp [runB, e0, B__law_bike, f1, f2, t1, t2, u, bk, ringsF, cogsF]
def m__law_bike : List PyData → Res PyData
  | [.list xs, .int a] => match allI xs with
    | some ns => if 0 ≤ a ∧ ns.length ≤ 63 then .ok (bk (ringsF ns a) (cogsF ns a)) else .no
    | none => .no
  | _ => .no
theorem ok__law_bike (Γ : Tb) (k : Nat) (hk : (Γ k).run = m__law_drawn) (ds : List PyData) : m__law_bike ds = .no ∨ runB Γ 6 (B__law_bike k) ds = m__law_bike ds := by
  unfold m__law_bike
  split
  · split
    · rename_i xs a x ns e
      have e := allI_map e
      subst e
      split
      · rename_i h
        exact .inr (run_bike Γ k hk ns a h.1 h.2)
      · exact .inl rfl
    · exact .inl rfl
  · exact .inl rfl
end Cg

set_option maxHeartbeats 1000000
namespace Cg
open PySem PySem.Spec PyProof.Rows L2
/-! ### 30. plain facts of a drawn bicycle -/
theorem at_get {xs : List Int} {i : Int} (h2 : i.toNat < xs.length) : at' xs i = xs[i.toNat] := by
  simp [at', List.getD, List.getElem?_eq_getElem h2]
theorem at_mono {xs : List Int} (h : xs.Pairwise (· < ·)) {i j : Int} (h0 : 0 ≤ i) (hij : i ≤ j) (hj : j < xs.length) : at' xs i ≤ at' xs j := by
  rw [at_get (by omega : i.toNat < xs.length), at_get (by omega : j.toNat < xs.length)]
  by_cases e : i = j
  · subst e
    exact Int.le_refl _
  · exact Int.le_of_lt (List.pairwise_iff_getElem.mp h _ _ _ _ (by omega))
theorem dIx_last {xs : List Int} (h : 1 ≤ xs.length) : dIx (.tuple (xs.map PyData.int)) (.int (-1)) = .ok (.int (at' xs ((xs.length : Int) - 1))) := by
  have e : atI (xs.map PyData.int) (-1) = atI (xs.map PyData.int) ((xs.length : Int) - 1) := by
    unfold atI ixN
    rw [if_neg (by decide), List.length_map, if_pos (by omega), if_pos (by omega), if_pos (by omega)]
    have : (-1 + (xs.length : Int)).toNat = ((xs.length : Int) - 1).toNat := by omega
    rw [this]
  unfold dIx
  simp only
  rw [e, atI_int (by omega) (by omega)]
theorem plainAll_gears (qs : List (Int × Int)) : PyData.plainAll (qs.map gT) = true := by
  induction qs with
  | nil => rfl
  | cons q qs ih => simp [PyData.plainAll, PyData.plain, gT, ih]
theorem depthAll_gears (qs : List (Int × Int)) : PyData.depthAll (qs.map gT) ≤ 5 := by
  induction qs with
  | nil => simp [PyData.depthAll]
  | cons q qs ih =>
    simp [PyData.depthAll, PyData.depth, gT] at ih ⊢
    omega
theorem okD_gears (qs : List (Int × Int)) : okD (.list (qs.map gT)) = true := by
  unfold okD
  have := depthAll_gears qs
  rw [Bool.and_eq_true]
  refine ⟨by simpa [PyData.plain] using plainAll_gears qs, decide_eq_true ?_⟩
  simp [PyData.depth]
  omega
theorem okD_gT (p : Int × Int) : okD (gT p) = true := by
  simp [okD, gT, PyData.plain, PyData.plainAll, PyData.depth, PyData.depthAll]
theorem any_gears (p : Int × Int) (qs : List (Int × Int)) : ((qs.map gT).any fun y => PyData.eqv y (gT p)) = decide (p ∈ qs) := by
  induction qs with
  | nil => rfl
  | cons q qs ih =>
    rw [List.map_cons, List.any_cons, ih]
    have e : PyData.eqv (gT q) (gT p) = decide (q = p) := eqv_ii q p
    rw [e, Bool.eq_iff_iff]
    simp only [Bool.or_eq_true, decide_eq_true_eq, List.mem_cons]
    exact ⟨fun h => h.imp Eq.symm id, fun h => h.imp Eq.symm id⟩
theorem in_gears (p : Int × Int) (qs : List (Int × Int)) : dCmp .In (gT p) (.list (qs.map gT)) = .ok (decide (p ∈ qs)) := by
  show (if okD (gT p) = true ∧ PyData.plainAll (qs.map gT) = true then Res.ok ((qs.map gT).any fun y => PyData.eqv y (gT p)) else .no) = _
  rw [if_pos ⟨okD_gT p, plainAll_gears qs⟩, any_gears]
theorem notin_gears (p : Int × Int) (qs : List (Int × Int)) : dCmp .NotIn (gT p) (.list (qs.map gT)) = .ok (!decide (p ∈ qs)) := by
  show (if okD (gT p) = true ∧ PyData.plainAll (qs.map gT) = true then Res.ok (!(qs.map gT).any fun y => PyData.eqv y (gT p)) else .no) = _
  rw [if_pos ⟨okD_gT p, plainAll_gears qs⟩, any_gears]
theorem eqvAll_gears (qs : List (Int × Int)) : PyData.eqvAll (qs.map gT) (qs.map gT) = true := by
  induction qs with
  | nil => rfl
  | cons q qs ih =>
    have e : PyData.eqv (gT q) (gT q) = decide (q = q) := eqv_ii q q
    simp [PyData.eqvAll, e, ih]
theorem ne_self (qs : List (Int × Int)) : dCmp .NotEq (.list (qs.map gT)) (.list (qs.map gT)) = .ok false := by
  show (if okD (.list (qs.map gT)) = true ∧ okD (.list (qs.map gT)) = true then Res.ok (!PyData.eqv (.list (qs.map gT)) (.list (qs.map gT))) else .no) = _
  rw [if_pos ⟨okD_gears qs, okD_gears qs⟩]
  simp [PyData.eqv, eqvAll_gears]
def leG (a b : Int × Int) : Bool := decide (a.1 < b.1 ∨ (a.1 = b.1 ∧ a.2 ≤ b.2))
theorem gearsL_sorted (n m : Nat) : (gearsL n m).Pairwise fun a b => leG a b = true := by
  unfold gearsL
  rw [List.pairwise_flatMap]
  refine ⟨fun i _ => ?_, ?_⟩
  · rw [List.pairwise_map]
    refine List.Pairwise.imp (fun {a b} h => ?_) List.pairwise_lt_range
    exact decide_eq_true (.inr ⟨rfl, by simpa using Nat.le_of_lt h⟩)
  · refine List.Pairwise.imp (fun {a b} h x hx y hy => ?_) List.pairwise_lt_range
    obtain ⟨j, _, rfl⟩ := List.mem_map.mp hx
    obtain ⟨k, _, rfl⟩ := List.mem_map.mp hy
    exact decide_eq_true (.inl (by simpa using h))
theorem sorted_gears {qs : List (Int × Int)} (h : qs.Pairwise fun a b => leG a b = true) (few : qs.length ≤ 1000) : dBlt .sorted [.list (qs.map gT)] = .ok (.list (qs.map gT)) := by
  show dSorted (qs.map gT) = _
  have e : (qs.map gT).mergeSort (PySem.W.dataLe false id) = (qs.mergeSort leG).map gT := by
    rw [PySem.W.sort_maps gT (r := leG) fun a _ b _ => le_pair_d a b]
  have e2 : qs.mergeSort leG = qs := List.mergeSort_of_pairwise h
  have s : sortableD (qs.map gT) = true := by
    unfold sortableD
    rw [plainAll_gears]
    simp only [Bool.true_and, Bool.and_eq_true, Bool.or_eq_true, List.all_eq_true, decide_eq_true_eq]
    refine ⟨⟨fun d hd e he => ?_, fun d hd => ?_⟩, .inl fun d hd => ?_⟩
    · obtain ⟨p, _, rfl⟩ := List.mem_map.mp hd
      obtain ⟨q, _, rfl⟩ := List.mem_map.mp he
      rfl
    · obtain ⟨p, _, rfl⟩ := List.mem_map.mp hd
      simp [gT, PyData.depth, PyData.depthAll]
    · obtain ⟨p, _, rfl⟩ := List.mem_map.mp hd
      rfl
  unfold dSorted
  rw [if_pos ⟨s, by rw [List.length_map]; exact Nat.le_trans few (by decide)⟩, e, e2]
/-- what is used of a gear's chain -/
theorem last_in {rs cs : List Int} (d : Drawn rs cs) : inG rs cs (lastG rs cs) := by
  have h1 := d.r1
  have h2 := d.c1
  unfold inG lastG
  simp only
  omega
theorem tw_ok {rs cs : List Int} (d : Drawn rs cs) {p : Int × Int} (hp : inG rs cs p) (s : Int) : 4 * s + 18 ≤ twD rs cs p s ∧ twD rs cs p s ≤ 4 * s + 110 ∧ twD rs cs p s ≤ twD rs cs (lastG rs cs) s ∧
    at' rs 0 ≤ at' rs p.1 ∧ at' cs 0 ≤ at' cs p.2 ∧ at' rs p.1 ≤ at' rs ((rs.length : Int) - 1) ∧ at' cs p.2 ≤ at' cs ((cs.length : Int) - 1) := by
  obtain ⟨g1, g2, g3, g4⟩ := hp
  have r := d.r3 _ (at_mem g1 g2)
  have c := d.c3 _ (at_mem g3 g4)
  have m1 := at_mono d.r4 g1 (by omega : p.1 ≤ (rs.length : Int) - 1) (by omega)
  have m2 := at_mono d.c4 g3 (by omega : p.2 ≤ (cs.length : Int) - 1) (by omega)
  have m3 := at_mono d.r4 (Int.le_refl 0) g1 g2
  have m4 := at_mono d.c4 (Int.le_refl 0) g3 g4
  unfold twD lastG
  simp only
  omega
theorem linkB_of {l : Int} (h1 : 2 ≤ l) (h2 : l ≤ 200) (h3 : l % 2 = 0) : linkB l = true := by
  unfold linkB
  simp only [Bool.and_eq_true, decide_eq_true_eq]
  exact ⟨⟨h1, h2⟩, h3⟩
theorem stayB_of {s : Int} (h1 : 20 ≤ s) (h2 : s ≤ 60) : stayB s = true := by
  unfold stayB
  simp only [Bool.and_eq_true, decide_eq_true_eq]
  exact ⟨h1, h2⟩
section
variable {Γ : Tb} {k : Nat} {rs cs : List Int} {p : Int × Int} {s l m : Int}
theorem links_at (hk : (Γ k).run = m_links_for) (d : Drawn rs cs) (hp : inG rs cs p) (h : stayB s = true) : (Γ k).run [bk rs cs, gT p, .int s] = .ok (.int (evenL (twD rs cs p s))) := by
  rw [hk]
  simp only [m_links_for, rdBG_eq]
  rw [if_pos ⟨d.ok, hp, h⟩]
theorem chain_at (hk : (Γ k).run = m_chain_for) (d : Drawn rs cs) (h : stayB s = true) : (Γ k).run [bk rs cs, .int s] = .ok (.int (evenL (twD rs cs (lastG rs cs) s))) := by
  rw [hk]
  simp only [m_chain_for, rdB_eq]
  rw [if_pos ⟨d.ok, last_in d, h⟩]
theorem slack_at (hk : (Γ k).run = m_slack) (d : Drawn rs cs) (hp : inG rs cs p) (h : stayB s = true) (hl : linkB l = true) : (Γ k).run [bk rs cs, gT p, .int s, .int l] = .ok (.int (2 * l - twD rs cs p s)) := by
  rw [hk]
  simp only [m_slack, rdBG_eq]
  rw [if_pos ⟨d.ok, hp, h, hl⟩]
theorem fit_at (hk : (Γ k).run = m_fitting) (d : Drawn rs cs) (h : stayB s = true) (hl : linkB l = true) (h0 : 0 ≤ m) (h1 : m ≤ 100) : (Γ k).run [bk rs cs, .int s, .int l, .int m] = .ok (.list ((fitG rs cs s l m).map gT)) := by
  rw [hk]
  simp only [m_fitting, rdB_eq]
  rw [if_pos ⟨d.ok, h, hl, h0, h1⟩]
theorem gears_at (hk : (Γ k).run = m_gears) (d : Drawn rs cs) : (Γ k).run [bk rs cs] = .ok (.list (findG rs cs)) := by
  rw [hk]
  simp only [m_gears, rdB_eq]
  rw [if_pos d.ok]
end
end Cg

set_option maxHeartbeats 1000000
namespace Cg
open PySem PySem.Spec PyProof.Rows L2
def N_ratio : List Str := ["bike", "gear"]
def B_ratio (k_check_bike k_check_gear k_find_ratio : Nat) : Ss := (.cons (.drop (.call k_check_bike (.cons (.var 0) .nil)))
    (.cons (.drop (.call k_check_gear (.cons (.var 0) (.cons (.var 1) .nil))))
    (.cons (.ret (.call k_find_ratio (.cons (.var 0) (.cons (.var 1) .nil))))
    .nil)))
def N_order_of : List Str := ["one", "other", "left", "right"]
def B_order_of : Ss := (.cons (.par [2, 3] [(false, (.bin .Mult (.ix (.var 0) (.int 0)) (.ix (.var 1) (.int 1)))), (false, (.bin .Mult (.ix (.var 1) (.int 0)) (.ix (.var 0) (.int 1))))])
    (.cons (.ife (.cmp .Eq (.var 2) (.var 3))
    (.cons (.ret (.int 0))
    .nil)
    .nil)
    (.cons (.ret (.ife (.cmp .Gt (.var 2) (.var 3)) (.int 1) (.neg (.int 1))))
    .nil)))
def N_compare : List Str := ["bike", "one", "other"]
def B_compare (k_check_bike k_check_gear k_find_ratio k_order_of : Nat) : Ss := (.cons (.drop (.call k_check_bike (.cons (.var 0) .nil)))
    (.cons (.drop (.call k_check_gear (.cons (.var 0) (.cons (.var 1) .nil))))
    (.cons (.drop (.call k_check_gear (.cons (.var 0) (.cons (.var 2) .nil))))
    (.cons (.ret (.call k_order_of (.cons (.call k_find_ratio (.cons (.var 0) (.cons (.var 1) .nil))) (.cons (.call k_find_ratio (.cons (.var 0) (.cons (.var 2) .nil))) .nil))))
    .nil))))
def N_check_wheel : List Str := ["value"]
def B_check_wheel (k_is_int : Nat) : Ss := (.cons (.ife (.nt (.call k_is_int (.cons (.var 0) (.cons (.glo "MIN_WHEEL" (.int 100)) (.cons (.glo "MAX_WHEEL" (.int 250)) .nil)))))
    (.cons (.rse "InvalidWheel")
    .nil)
    .nil)
    .nil)
def N_check_turns : List Str := ["value"]
def B_check_turns (k_is_int : Nat) : Ss := (.cons (.ife (.nt (.call k_is_int (.cons (.var 0) (.cons (.int 1) (.cons (.glo "MAX_TURNS" (.int 150)) .nil)))))
    (.cons (.rse "InvalidTurns")
    .nil)
    .nil)
    .nil)
def N_check_way : List Str := ["value"]
def B_check_way (k_is_int : Nat) : Ss := (.cons (.ife (.nt (.call k_is_int (.cons (.var 0) (.cons (.int 1) (.cons (.glo "MAX_WAY" (.int 100000)) .nil)))))
    (.cons (.rse "InvalidWay")
    .nil)
    .nil)
    .nil)
def N_speed : List Str := ["bike", "gear", "wheel", "turns"]
def B_speed (k_check_bike k_check_gear k_reduced k_check_wheel k_check_turns : Nat) : Ss := (.cons (.drop (.call k_check_bike (.cons (.var 0) .nil)))
    (.cons (.drop (.call k_check_gear (.cons (.var 0) (.cons (.var 1) .nil))))
    (.cons (.drop (.call k_check_wheel (.cons (.var 2) .nil)))
    (.cons (.drop (.call k_check_turns (.cons (.var 3) .nil)))
    (.cons (.ret (.call k_reduced (.cons (.bin .Mult (.bin .Mult (.ix (.ix (.var 0) (.int 0)) (.ix (.var 1) (.int 0))) (.var 2)) (.var 3)) (.cons (.ix (.ix (.var 0) (.int 1)) (.ix (.var 1) (.int 1))) .nil))))
    .nil)))))
def N_turns_for : List Str := ["bike", "gear", "wheel", "way"]
def B_turns_for (k_check_bike k_check_gear k_reduced k_check_wheel k_check_way : Nat) : Ss := (.cons (.drop (.call k_check_bike (.cons (.var 0) .nil)))
    (.cons (.drop (.call k_check_gear (.cons (.var 0) (.cons (.var 1) .nil))))
    (.cons (.drop (.call k_check_wheel (.cons (.var 2) .nil)))
    (.cons (.drop (.call k_check_way (.cons (.var 3) .nil)))
    (.cons (.ret (.call k_reduced (.cons (.bin .Mult (.var 3) (.ix (.ix (.var 0) (.int 1)) (.ix (.var 1) (.int 1)))) (.cons (.bin .Mult (.ix (.ix (.var 0) (.int 0)) (.ix (.var 1) (.int 0))) (.var 2)) .nil))))
    .nil)))))
def N_gear_for : List Str := ["bike", "wheel", "turns", "way", "cog", "unit", "found", "ring"]
def B_gear_for (k_check_bike k_all_gears k_check_wheel k_check_turns k_check_way : Nat) : Ss := (.cons (.drop (.call k_check_bike (.cons (.var 0) .nil)))
    (.cons (.drop (.call k_check_wheel (.cons (.var 1) .nil)))
    (.cons (.drop (.call k_check_turns (.cons (.var 2) .nil)))
    (.cons (.drop (.call k_check_way (.cons (.var 3) .nil)))
    (.cons (.par [5, 6] [(false, (.int 1)), (true, (.lst .nil))])
    (.cons (.for_ (.one 4) (.val (.ix (.var 0) (.int 1)))
    (.cons (.asg 5 (.bin .Mult (.var 5) (.var 4)))
    .nil))
    (.cons (.for_ (.tup [7, 4]) (.val (.call k_all_gears (.cons (.var 0) .nil)))
    (.cons (.app 6 (.tup (.cons (.bin .Mult (.blt .abs (.cons (.bin .Sub (.bin .Mult (.bin .Mult (.ix (.ix (.var 0) (.int 0)) (.var 7)) (.var 1)) (.var 2)) (.bin .Mult (.var 3) (.ix (.ix (.var 0) (.int 1)) (.var 4)))) .nil)) (.bin .FloorDiv (.var 5) (.ix (.ix (.var 0) (.int 1)) (.var 4)))) (.cons (.tup (.cons (.var 7) (.cons (.var 4) .nil))) .nil))))
    .nil))
    (.cons (.frz 6)
    (.cons (.ret (.ix (.blt .minL (.cons (.var 6) .nil)) (.int 1)))
    .nil)))))))))
def N_gears_between : List Str := ["bike", "wheel", "least", "most", "way", "found", "ring", "cog", "unit"]
def B_gears_between (k_check_bike k_all_gears k_check_wheel k_check_turns k_check_way : Nat) : Ss := (.cons (.drop (.call k_check_bike (.cons (.var 0) .nil)))
    (.cons (.drop (.call k_check_wheel (.cons (.var 1) .nil)))
    (.cons (.drop (.call k_check_turns (.cons (.var 2) .nil)))
    (.cons (.drop (.call k_check_turns (.cons (.var 3) .nil)))
    (.cons (.drop (.call k_check_way (.cons (.var 4) .nil)))
    (.cons (.own 5 (.lst .nil))
    (.cons (.for_ (.tup [6, 7]) (.val (.call k_all_gears (.cons (.var 0) .nil)))
    (.cons (.asg 8 (.bin .Mult (.ix (.ix (.var 0) (.int 0)) (.var 6)) (.var 1)))
    (.cons (.ife (.chn .LtE .LtE (.bin .Mult (.var 2) (.var 8)) (.bin .Mult (.var 4) (.ix (.ix (.var 0) (.int 1)) (.var 7))) (.bin .Mult (.var 3) (.var 8)))
    (.cons (.app 5 (.tup (.cons (.var 6) (.cons (.var 7) .nil))))
    .nil)
    .nil)
    .nil)))
    (.cons (.frz 5)
    (.cons (.ret (.var 5))
    .nil)))))))))
def N__law_least : List Str := ["_law_above", "_law_below", "_law_one", "_law_other"]
def B__law_least (fuel : Nat) : Ss := (.cons (.par [2, 3] [(false, (.var 0)), (false, (.var 1))])
    (.cons (.whl fuel (.cmp .Gt (.var 3) (.int 0))
    (.cons (.par [2, 3] [(false, (.var 3)), (false, (.bin .Mod (.var 2) (.var 3)))])
    .nil))
    (.cons (.ret (.tup (.cons (.bin .FloorDiv (.var 0) (.var 2)) (.cons (.bin .FloorDiv (.var 1) (.var 2)) .nil))))
    .nil)))
/-! ### 40. ratios and speeds -/
def redD (a b : Int) : PyData := .tuple [.int (a / Int.gcd a b), .int (b / Int.gcd a b)]
theorem reduced_at {Γ : Tb} {k : Nat} (hk : (Γ k).run = m_reduced) {a b : Int} (h0 : 0 ≤ a) (h1 : 0 < b) (h2 : b < 1000000000000) : (Γ k).run [.int a, .int b] = .ok (redD a b) := by
  rw [hk]
  simp only [m_reduced]
  rw [if_pos ⟨h0, h1, h2⟩]
  rfl
def m_ratio : List PyData → Res PyData
  | [b, g] => rdBG b g fun rs cs i j => if okB rs cs = true ∧ inG rs cs (i, j) then .ok (ratioD rs cs i j) else .no
  | _ => .no
theorem ok_ratio (Γ : Tb) (k1 k2 k3 : Nat) (h1 : (Γ k1).run = m_check_bike) (h2 : (Γ k2).run = m_check_gear) (h3 : (Γ k3).run = m_find_ratio) (ds : List PyData) : m_ratio ds = .no ∨ runB Γ 2 (B_ratio k1 k2 k3) ds = m_ratio ds := by
  unfold m_ratio
  split
  · rename_i b g
    rcases rdBG_no (b := b) (g := g) (f := fun rs cs i j => if okB rs cs = true ∧ inG rs cs (i, j) then Res.ok (ratioD rs cs i j) else .no) with e | ⟨rs, cs, p, rfl, rfl⟩
    · exact .inl e
    · rw [rdBG_eq]
      split
      · rename_i h
        have c1 := check_bike_at h1 h.1
        have c2 := check_gear_at h2 h.2
        have c3 := ratio_at h3 (okB_ok h.1).1 h.2
        exact .inr (by simp [runB, startV, B_ratio, c1, c2, c3])
      · exact .inl rfl
  · exact .inl rfl
def ordF (a b c d : Int) : Int := if a * d = c * b then 0 else if c * b < a * d then 1 else -1
def few32 (a : Int) : Bool := decide (-4294967296 < a) && decide (a < 4294967296)
theorem few32_ok {a : Int} (h : few32 a = true) : smallI a = true := by
  unfold few32 at h
  simp only [Bool.and_eq_true, decide_eq_true_eq] at h
  exact smallI_few (by omega) (by omega)
def m_order_of : List PyData → Res PyData
  | [.tuple [.int a, .int b], .tuple [.int c, .int d]] => if few32 a = true ∧ few32 c = true then .ok (.int (ordF a b c d)) else .no
  | _ => .no
theorem ok_order_of (Γ : Tb) (ds : List PyData) : m_order_of ds = .no ∨ runB Γ 4 B_order_of ds = m_order_of ds := by
  unfold m_order_of
  split
  · split
    · rename_i a b c d h
      have e1 := bn_mulk a d (few32_ok h.1)
      have e2 := bn_mulk c b (few32_ok h.2)
      refine .inr ?_
      unfold ordF
      by_cases q : a * d = c * b
      · simp [runB, startV, B_order_of, e1, e2, q]
      · by_cases q2 : c * b < a * d
        · simp [runB, startV, B_order_of, e1, e2, q, q2]
        · simp [runB, startV, B_order_of, e1, e2, q, q2]
    · exact .inl rfl
  · exact .inl rfl
theorem red_few {rs cs : List Int} (hb : bikeB rs cs = true) {p : Int × Int} (hp : inG rs cs p) : 0 < at' cs p.2 / Int.gcd (at' rs p.1) (at' cs p.2) ∧ few32 (at' rs p.1 / Int.gcd (at' rs p.1) (at' cs p.2)) = true ∧ few32 (at' cs p.2 / Int.gcd (at' rs p.1) (at' cs p.2)) = true := by
  obtain ⟨b1, b2, b3, b4⟩ := bikeB_ok hb
  obtain ⟨g1, g2, g3, g4⟩ := hp
  have r1 := b3 _ (at_mem g1 g2)
  have r2 := b4 _ (at_mem g3 g4)
  have g0 := gcd_small (a := at' rs p.1) (b := at' cs p.2) (by omega) (by omega)
  have dv : (Int.gcd (at' rs p.1) (at' cs p.2) : Int) ∣ at' cs p.2 := Int.gcd_dvd_right _ _
  have q1 : 0 < at' cs p.2 / Int.gcd (at' rs p.1) (at' cs p.2) := Int.ediv_pos_of_pos_of_dvd (by omega) (by omega) dv
  have q2 : at' cs p.2 / Int.gcd (at' rs p.1) (at' cs p.2) ≤ at' cs p.2 := Int.ediv_le_self _ (by omega)
  have q3 : at' rs p.1 / Int.gcd (at' rs p.1) (at' cs p.2) ≤ at' rs p.1 := Int.ediv_le_self _ (by omega)
  have q4 : 0 ≤ at' rs p.1 / Int.gcd (at' rs p.1) (at' cs p.2) := Int.ediv_nonneg (by omega) (by omega)
  refine ⟨q1, ?_, ?_⟩ <;> (unfold few32; simp only [Bool.and_eq_true, decide_eq_true_eq]; omega)
/-- compare's answer -/
def cmpF (rs cs : List Int) (p q : Int × Int) : Int := ordF (at' rs p.1 / Int.gcd (at' rs p.1) (at' cs p.2)) (at' cs p.2 / Int.gcd (at' rs p.1) (at' cs p.2)) (at' rs q.1 / Int.gcd (at' rs q.1) (at' cs q.2)) (at' cs q.2 / Int.gcd (at' rs q.1) (at' cs q.2))
noncomputable section
def m_compare (ds : List PyData) : Res PyData := match ds with
  | [b, g, g'] => rdBG b g fun rs cs i j => rdBG b g' fun _ _ i' j' => if okB rs cs = true ∧ inG rs cs (i, j) ∧ inG rs cs (i', j') then .ok (.int (cmpF rs cs (i, j) (i', j'))) else .no
  | _ => .no
end
theorem ok_compare (Γ : Tb) (k1 k2 k3 k4 : Nat) (h1 : (Γ k1).run = m_check_bike) (h2 : (Γ k2).run = m_check_gear) (h3 : (Γ k3).run = m_find_ratio) (h4 : (Γ k4).run = m_order_of) (ds : List PyData) : m_compare ds = .no ∨ runB Γ 3 (B_compare k1 k2 k3 k4) ds = m_compare ds := by
  unfold m_compare
  split
  · rename_i b g g'
    rcases rdBG_no (b := b) (g := g) (f := fun rs cs i j => rdBG b g' fun _ _ i' j' => if okB rs cs = true ∧ inG rs cs (i, j) ∧ inG rs cs (i', j') then Res.ok (.int (cmpF rs cs (i, j) (i', j'))) else .no) with e | ⟨rs, cs, p, rfl, rfl⟩
    · exact .inl e
    · rw [rdBG_eq]
      rcases rdBG_no (b := bk rs cs) (g := g') (f := fun _ _ i' j' => if okB rs cs = true ∧ inG rs cs (p.1, p.2) ∧ inG rs cs (i', j') then Res.ok (.int (cmpF rs cs (p.1, p.2) (i', j'))) else .no) with e | ⟨_, _, q, _, rfl⟩
      · exact .inl e
      · rw [rdBG_eq]
        split
        · rename_i h
          have hb := (okB_ok h.1).1
          have c1 := check_bike_at h1 h.1
          have c2 := check_gear_at h2 h.2.1
          have c3 := check_gear_at h2 h.2.2
          have c4 := ratio_at h3 hb h.2.1
          have c5 := ratio_at h3 hb h.2.2
          have f1 := red_few hb h.2.1
          have f2 := red_few hb h.2.2
          have c6 : (Γ k4).run [ratioD rs cs p.1 p.2, ratioD rs cs q.1 q.2] = .ok (.int (cmpF rs cs (p.1, p.2) (q.1, q.2))) := by
            rw [h4]
            simp only [m_order_of, ratioD]
            rw [if_pos ⟨f1.2.1, f2.2.1⟩]
            rfl
          exact .inr (by simp [runB, startV, B_compare, c1, c2, c3, c4, c5, c6])
        · exact .inl rfl
  · exact .inl rfl
def wheelB (s : Int) : Bool := decide (100 ≤ s) && decide (s ≤ 250)
def turnsB (s : Int) : Bool := decide (1 ≤ s) && decide (s ≤ 150)
def wayB (s : Int) : Bool := decide (1 ≤ s) && decide (s ≤ 100000)
def m_check_wheel : List PyData → Res PyData
  | [v] => if noDict v = true then (if isIntD v 100 250 = true then .ok .none else .exc "InvalidWheel") else .no
  | _ => .no
theorem ok_check_wheel (Γ : Tb) (k : Nat) (hk : (Γ k).run = m_is_int) (ds : List PyData) : m_check_wheel ds = .no ∨ runB Γ 1 (B_check_wheel k) ds = m_check_wheel ds := by
  unfold m_check_wheel
  split
  · split
    · rename_i v h
      refine .inr ?_
      cases h1 : isIntD v 100 250 <;> simp [runB, startV, B_check_wheel, hk, m_is_int, h, h1]
    · exact .inl rfl
  · exact .inl rfl
def m_check_turns : List PyData → Res PyData
  | [v] => if noDict v = true then (if isIntD v 1 150 = true then .ok .none else .exc "InvalidTurns") else .no
  | _ => .no
theorem ok_check_turns (Γ : Tb) (k : Nat) (hk : (Γ k).run = m_is_int) (ds : List PyData) : m_check_turns ds = .no ∨ runB Γ 1 (B_check_turns k) ds = m_check_turns ds := by
  unfold m_check_turns
  split
  · split
    · rename_i v h
      refine .inr ?_
      cases h1 : isIntD v 1 150 <;> simp [runB, startV, B_check_turns, hk, m_is_int, h, h1]
    · exact .inl rfl
  · exact .inl rfl
def m_check_way : List PyData → Res PyData
  | [v] => if noDict v = true then (if isIntD v 1 100000 = true then .ok .none else .exc "InvalidWay") else .no
  | _ => .no
theorem ok_check_way (Γ : Tb) (k : Nat) (hk : (Γ k).run = m_is_int) (ds : List PyData) : m_check_way ds = .no ∨ runB Γ 1 (B_check_way k) ds = m_check_way ds := by
  unfold m_check_way
  split
  · split
    · rename_i v h
      refine .inr ?_
      cases h1 : isIntD v 1 100000 <;> simp [runB, startV, B_check_way, hk, m_is_int, h, h1]
    · exact .inl rfl
  · exact .inl rfl
theorem check_wheel_at {Γ : Tb} {k : Nat} (hk : (Γ k).run = m_check_wheel) {s : Int} (h : wheelB s = true) : (Γ k).run [.int s] = .ok .none := by
  rw [hk]
  have e : isIntD (.int s) 100 250 = true := h
  show (if noDict (.int s) = true then (if isIntD (.int s) 100 250 = true then Res.ok PyData.none else .exc "InvalidWheel") else .no) = _
  rw [e]
  rfl
theorem check_turns_at {Γ : Tb} {k : Nat} (hk : (Γ k).run = m_check_turns) {s : Int} (h : turnsB s = true) : (Γ k).run [.int s] = .ok .none := by
  rw [hk]
  have e : isIntD (.int s) 1 150 = true := h
  show (if noDict (.int s) = true then (if isIntD (.int s) 1 150 = true then Res.ok PyData.none else .exc "InvalidTurns") else .no) = _
  rw [e]
  rfl
theorem check_way_at {Γ : Tb} {k : Nat} (hk : (Γ k).run = m_check_way) {s : Int} (h : wayB s = true) : (Γ k).run [.int s] = .ok .none := by
  rw [hk]
  have e : isIntD (.int s) 1 100000 = true := h
  show (if noDict (.int s) = true then (if isIntD (.int s) 1 100000 = true then Res.ok PyData.none else .exc "InvalidWay") else .no) = _
  rw [e]
  rfl
theorem gear_bounds {rs cs : List Int} (h : okB rs cs = true) {p : Int × Int} (hp : inG rs cs p) : 0 ≤ at' rs p.1 ∧ at' rs p.1 ≤ 1000 ∧ 1 ≤ at' cs p.2 ∧ at' cs p.2 ≤ 1000 := by
  obtain ⟨b1, b2, b3, b4⟩ := bikeB_ok (okB_ok h).1
  obtain ⟨g1, g2, g3, g4⟩ := hp
  have r1 := b3 _ (at_mem g1 g2)
  have r2 := b4 _ (at_mem g3 g4)
  exact ⟨r1.1, r1.2, r2.1, r2.2⟩
def m_speed : List PyData → Res PyData
  | [b, g, .int w, .int t] => rdBG b g fun rs cs i j => if okB rs cs = true ∧ inG rs cs (i, j) ∧ wheelB w = true ∧ turnsB t = true then .ok (redD (at' rs i * w * t) (at' cs j)) else .no
  | _ => .no
theorem ok_speed (Γ : Tb) (k1 k2 k3 k4 k5 : Nat) (h1 : (Γ k1).run = m_check_bike) (h2 : (Γ k2).run = m_check_gear) (h3 : (Γ k3).run = m_reduced) (h4 : (Γ k4).run = m_check_wheel) (h5 : (Γ k5).run = m_check_turns) (ds : List PyData) : m_speed ds = .no ∨ runB Γ 4 (B_speed k1 k2 k3 k4 k5) ds = m_speed ds := by
  unfold m_speed
  split
  · rename_i b g w t
    rcases rdBG_no (b := b) (g := g) (f := fun rs cs i j => if okB rs cs = true ∧ inG rs cs (i, j) ∧ wheelB w = true ∧ turnsB t = true then Res.ok (redD (at' rs i * w * t) (at' cs j)) else .no) with e | ⟨rs, cs, p, rfl, rfl⟩
    · exact .inl e
    · rw [rdBG_eq]
      split
      · rename_i h
        obtain ⟨q1, q2, q3, q4⟩ := h
        have c1 := check_bike_at h1 q1
        have c2 := check_gear_at h2 q2
        have c3 := check_wheel_at h4 q3
        have c4 := check_turns_at h5 q4
        obtain ⟨r0, r1, r2, r3⟩ := (show 0 ≤ at' rs p.1 ∧ at' rs p.1 ≤ 1000 ∧ 1 ≤ at' cs p.2 ∧ at' cs p.2 ≤ 1000 from gear_bounds q1 q2)
        obtain ⟨g1, g2, g3, g4⟩ := q2
        have x1 := dIx_int (xs := rs) g1 g2
        have x2 := dIx_int (xs := cs) g3 g4
        have x5 : dIx (gT p) (.int 0) = .ok (.int p.1) := ix_t0 _ _
        have x6 : dIx (gT p) (.int 1) = .ok (.int p.2) := ix_t1 _ _ _
        have y1 : dIx (bk rs cs) (.int 0) = .ok (.tuple (rs.map .int)) := ix_t0 _ _
        have y2 : dIx (bk rs cs) (.int 1) = .ok (.tuple (cs.map .int)) := ix_t1 _ _ _
        simp only [wheelB, turnsB, Bool.and_eq_true, decide_eq_true_eq] at q3 q4
        have m1 := bn_mulk (at' rs p.1) w (smallI_few (by omega) (by omega))
        have m2 := bn_mulr (at' rs p.1 * w) t (smallI_few (by omega) (by omega))
        have nn : 0 ≤ at' rs p.1 * w * t := Int.mul_nonneg (Int.mul_nonneg r0 (by omega)) (by omega)
        have c5 := reduced_at h3 nn (by omega : 0 < at' cs p.2) (by omega)
        exact .inr (by simp [runB, startV, B_speed, c1, c2, c3, c4, x1, x2, x5, x6, y1, y2, m1, m2, c5])
      · exact .inl rfl
  · exact .inl rfl
def m_turns_for : List PyData → Res PyData
  | [b, g, .int w, .int y] => rdBG b g fun rs cs i j => if okB rs cs = true ∧ inG rs cs (i, j) ∧ wheelB w = true ∧ wayB y = true ∧ 0 < at' rs i then .ok (redD (y * at' cs j) (at' rs i * w)) else .no
  | _ => .no
theorem ok_turns_for (Γ : Tb) (k1 k2 k3 k4 k5 : Nat) (h1 : (Γ k1).run = m_check_bike) (h2 : (Γ k2).run = m_check_gear) (h3 : (Γ k3).run = m_reduced) (h4 : (Γ k4).run = m_check_wheel) (h5 : (Γ k5).run = m_check_way) (ds : List PyData) : m_turns_for ds = .no ∨ runB Γ 4 (B_turns_for k1 k2 k3 k4 k5) ds = m_turns_for ds := by
  unfold m_turns_for
  split
  · rename_i b g w y
    rcases rdBG_no (b := b) (g := g) (f := fun rs cs i j => if okB rs cs = true ∧ inG rs cs (i, j) ∧ wheelB w = true ∧ wayB y = true ∧ 0 < at' rs i then Res.ok (redD (y * at' cs j) (at' rs i * w)) else .no) with e | ⟨rs, cs, p, rfl, rfl⟩
    · exact .inl e
    · rw [rdBG_eq]
      split
      · rename_i h
        obtain ⟨q1, q2, q3, q4, q5⟩ := h
        have c1 := check_bike_at h1 q1
        have c2 := check_gear_at h2 q2
        have c3 := check_wheel_at h4 q3
        have c4 := check_way_at h5 q4
        obtain ⟨r0, r1, r2, r3⟩ := (show 0 ≤ at' rs p.1 ∧ at' rs p.1 ≤ 1000 ∧ 1 ≤ at' cs p.2 ∧ at' cs p.2 ≤ 1000 from gear_bounds q1 q2)
        obtain ⟨g1, g2, g3, g4⟩ := q2
        have x1 := dIx_int (xs := rs) g1 g2
        have x2 := dIx_int (xs := cs) g3 g4
        have x5 : dIx (gT p) (.int 0) = .ok (.int p.1) := ix_t0 _ _
        have x6 : dIx (gT p) (.int 1) = .ok (.int p.2) := ix_t1 _ _ _
        have y1 : dIx (bk rs cs) (.int 0) = .ok (.tuple (rs.map .int)) := ix_t0 _ _
        have y2 : dIx (bk rs cs) (.int 1) = .ok (.tuple (cs.map .int)) := ix_t1 _ _ _
        simp only [wheelB, wayB, Bool.and_eq_true, decide_eq_true_eq] at q3 q4
        have m1 := bn_mulk (at' rs p.1) w (smallI_few (by omega) (by omega))
        have m2 := bn_mulk y (at' cs p.2) (smallI_few (by omega) (by omega))
        have nn : 0 ≤ y * at' cs p.2 := Int.mul_nonneg (by omega) (by omega)
        have n1 : 0 < at' rs p.1 * w := Int.mul_pos q5 (by omega)
        have n2 : at' rs p.1 * w ≤ 1000 * 250 := Int.mul_le_mul r1 q3.2 (by omega) (by omega)
        have c5 := reduced_at h3 nn n1 (by omega)
        exact .inr (by simp [runB, startV, B_turns_for, c1, c2, c3, c4, x1, x2, x5, x6, y1, y2, m1, m2, c5])
      · exact .inl rfl
  · exact .inl rfl
/-! the gears between two turns -/
def btwP (rs cs : List Int) (w lo hi y : Int) (p : Int × Int) : Bool := decide (lo * (at' rs p.1 * w) ≤ y * at' cs p.2) && decide (y * at' cs p.2 ≤ hi * (at' rs p.1 * w))
def btwG (rs cs : List Int) (w lo hi y : Int) : List (Int × Int) := (gearsL rs.length cs.length).filter (btwP rs cs w lo hi y)
def m_gears_between : List PyData → Res PyData
  | [b, .int w, .int lo, .int hi, .int y] => rdB b fun rs cs => if okB rs cs = true ∧ wheelB w = true ∧ turnsB lo = true ∧ turnsB hi = true ∧ wayB y = true then .ok (.list ((btwG rs cs w lo hi y).map gT)) else .no
  | _ => .no
/-- a loop over pairs that may keep each -/
theorem for_keep {F : PyData → Ev → Res Fl} (mk : List PyData → Option Sl → Option Sl → Option Sl → Ev) (f : Int × Int → PyData) (q : Int × Int → Bool) : ∀ (ps : List (Int × Int)) (acc : List PyData) (a b c : Option Sl), acc.length + ps.length ≤ 1000 →
    (∀ p ∈ ps, ∀ (acc : List PyData) (a b c : Option Sl), acc.length ≤ 1000 → ∃ a' b' c', F (gT p) (mk acc a b c) = .ok (.nx (mk (if q p = true then acc ++ [f p] else acc) a' b' c'))) →
    ∃ a' b' c', forR F (ps.map gT) (mk acc a b c) = .ok (.nx (mk (acc ++ (ps.filter q).map f) a' b' c'))
  | [], acc, a, b, c, _, _ => ⟨a, b, c, by simp [forR]⟩
  | p :: ps, acc, a, b, c, hl, h => by
    rw [List.length_cons] at hl
    obtain ⟨a1, b1, c1, e1⟩ := h p List.mem_cons_self acc a b c (by omega)
    have hl2 : (if q p = true then acc ++ [f p] else acc).length + ps.length ≤ 1000 := by
      split
      · rw [List.length_append, List.length_singleton]; omega
      · omega
    obtain ⟨a2, b2, c2, e2⟩ := for_keep mk f q ps (if q p = true then acc ++ [f p] else acc) a1 b1 c1 hl2 fun r hr => h r (List.mem_cons_of_mem _ hr)
    refine ⟨a2, b2, c2, ?_⟩
    rw [List.map_cons]
    unfold forR
    rw [e1, bind_ok]
    simp only
    rw [e2]
    cases hq : q p with
    | true => rw [if_pos rfl, List.filter_cons_of_pos hq, List.append_assoc]; rfl
    | false => rw [if_neg (by decide), List.filter_cons_of_neg (by rw [hq]; decide)]
theorem ok_gears_between (Γ : Tb) (k1 k2 k3 k4 k5 : Nat) (h1 : (Γ k1).run = m_check_bike) (h2 : (Γ k2).run = m_all_gears) (h3 : (Γ k3).run = m_check_wheel) (h4 : (Γ k4).run = m_check_turns) (h5 : (Γ k5).run = m_check_way) (ds : List PyData) : m_gears_between ds = .no ∨ runB Γ 9 (B_gears_between k1 k2 k3 k4 k5) ds = m_gears_between ds := by
  unfold m_gears_between
  split
  · rename_i b w lo hi y
    rcases rdB_no (b := b) (f := fun rs cs => if okB rs cs = true ∧ wheelB w = true ∧ turnsB lo = true ∧ turnsB hi = true ∧ wayB y = true then Res.ok (.list ((btwG rs cs w lo hi y).map gT)) else .no) with e | ⟨rs, cs, rfl⟩
    · exact .inl e
    · rw [rdB_eq]
      split
      · rename_i h
        obtain ⟨q1, q2, q3, q4, q5⟩ := h
        obtain ⟨b1, b2, b3, b4⟩ := bikeB_ok (okB_ok q1).1
        have few := gears_few b1 b2
        have c1 := check_bike_at h1 q1
        have c2 := all_gears_at h2 b1 b2
        have c3 := check_wheel_at h3 q2
        have c4 := check_turns_at h4 q3
        have c5 := check_turns_at h4 q4
        have c6 := check_way_at h5 q5
        simp only [wheelB, turnsB, wayB, Bool.and_eq_true, decide_eq_true_eq] at q2 q3 q4 q5
        have y1 : dIx (bk rs cs) (.int 0) = .ok (.tuple (rs.map .int)) := ix_t0 _ _
        have y2 : dIx (bk rs cs) (.int 1) = .ok (.tuple (cs.map .int)) := ix_t1 _ _ _
        obtain ⟨a', b', c', w1⟩ := for_keep (F := fun x e => (bindT (.tup [6, 7]) x e).bind fun e' => evSs Γ (.cons (.asg 8 (.bin .Mult (.ix (.ix (.var 0) (.int 0)) (.var 6)) (.var 1)))
    (.cons (.ife (.chn .LtE .LtE (.bin .Mult (.var 2) (.var 8)) (.bin .Mult (.var 4) (.ix (.ix (.var 0) (.int 1)) (.var 7))) (.bin .Mult (.var 3) (.var 8)))
    (.cons (.app 5 (.tup (.cons (.var 6) (.cons (.var 7) .nil))))
    .nil)
    .nil)
    .nil)) e') (fun acc a b c => [some (.v (bk rs cs)), some (.v (.int w)), some (.v (.int lo)), some (.v (.int hi)), some (.v (.int y)), some (.l acc), a, b, c]) gT (btwP rs cs w lo hi y) (gearsL rs.length cs.length) [] none none none (by simp; omega) (fun p hp acc a b c hl => by
          have hp2 : inG rs cs p := mem_gearsL.mp hp
          obtain ⟨r0, r1, r2, r3⟩ := gear_bounds q1 hp2
          obtain ⟨g1, g2, g3, g4⟩ := hp2
          have x1 := dIx_int (xs := rs) g1 g2
          have x2 := dIx_int (xs := cs) g3 g4
          have m1 := bn_mulk (at' rs p.1) w (smallI_few (by omega) (by omega))
          have m2 := bn_mulk lo (at' rs p.1 * w) (smallI_few (by omega) (by omega))
          have m3 := bn_mulk hi (at' rs p.1 * w) (smallI_few (by omega) (by omega))
          have m4 := bn_mulk y (at' cs p.2) (smallI_few (by omega) (by omega))
          have z : acc.length < sizeLine := Nat.lt_of_le_of_lt hl (by decide)
          have bt : bindT (.tup [6, 7]) (gT p) [some (.v (bk rs cs)), some (.v (.int w)), some (.v (.int lo)), some (.v (.int hi)), some (.v (.int y)), some (.l acc), a, b, c] = .ok [some (.v (bk rs cs)), some (.v (.int w)), some (.v (.int lo)), some (.v (.int hi)), some (.v (.int y)), some (.l acc), some (.v (.int p.1)), some (.v (.int p.2)), c] := rfl
          refine ⟨some (.v (.int p.1)), some (.v (.int p.2)), some (.v (.int (at' rs p.1 * w))), ?_⟩
          rw [bt]
          by_cases t1 : lo * (at' rs p.1 * w) ≤ y * at' cs p.2
          · by_cases t2 : y * at' cs p.2 ≤ hi * (at' rs p.1 * w)
            · have t3 : btwP rs cs w lo hi y p = true := by simp [btwP, t1, t2]
              simp [y1, y2, x1, x2, m1, m2, m3, m4, t1, t2, t3, z]
              rfl
            · have t3 : btwP rs cs w lo hi y p = false := by simp [btwP, t2]
              simp [y1, y2, x1, x2, m1, m2, m3, m4, t1, t2, t3]
          · have t3 : btwP rs cs w lo hi y p = false := by simp [btwP, t1]
            simp [y1, y2, x1, x2, m1, m2, m4, t1, t3])
        have f1 : evS Γ (.for_ (.tup [6, 7]) (.val (.call k2 (.cons (.var 0) .nil)))
    (.cons (.asg 8 (.bin .Mult (.ix (.ix (.var 0) (.int 0)) (.var 6)) (.var 1)))
    (.cons (.ife (.chn .LtE .LtE (.bin .Mult (.var 2) (.var 8)) (.bin .Mult (.var 4) (.ix (.ix (.var 0) (.int 1)) (.var 7))) (.bin .Mult (.var 3) (.var 8)))
    (.cons (.app 5 (.tup (.cons (.var 6) (.cons (.var 7) .nil))))
    .nil)
    .nil)
    .nil))) [some (.v (bk rs cs)), some (.v (.int w)), some (.v (.int lo)), some (.v (.int hi)), some (.v (.int y)), some (.l []), none, none, none] = .ok (.nx [some (.v (bk rs cs)), some (.v (.int w)), some (.v (.int lo)), some (.v (.int hi)), some (.v (.int y)), some (.l ((btwG rs cs w lo hi y).map gT)), a', b', c']) := by
          have ei : evI Γ (.val (.call k2 (.cons (.var 0) .nil))) [some (.v (bk rs cs)), some (.v (.int w)), some (.v (.int lo)), some (.v (.int hi)), some (.v (.int y)), some (.l []), none, none, none] = .ok ((gearsL rs.length cs.length).map gT) := by simp [c2]
          rw [ts_for, ei, bind_ok, w1]
          rfl
        exact .inr (by simp [runB, startV, B_gears_between, c1, c3, c4, c5, c6, f1])
      · exact .inl rfl
  · exact .inl rfl
end Cg

set_option maxHeartbeats 1000000
namespace Cg
open PySem PySem.Spec PyProof.Rows L2
/-! ### 41. the gears in their order -/
theorem key_lt {a b c d M : Int} (hb : 0 < b) (hd : 0 < d) (hbd : b * d ≤ M) (h : a * d < c * b) : a * M / b < c * M / d := by
  have h1 : a * M / b * b ≤ a * M := Int.ediv_mul_le _ (by omega)
  have h2 : c * M < (c * M / d + 1) * d := Int.lt_ediv_add_one_mul_self _ hd
  generalize a * M / b = kp at h1 ⊢
  generalize c * M / d = kq at h2 ⊢
  apply Classical.byContradiction
  intro hn
  have hle : kq ≤ kp := by omega
  have m1 : kp * b * d ≤ a * M * d := Int.mul_le_mul_of_nonneg_right h1 (by omega)
  have m2 : c * M * b < (kq + 1) * d * b := Int.mul_lt_mul_of_pos_right h2 hb
  have m3 : (kq + 1) * (d * b) ≤ (kp + 1) * (d * b) := Int.mul_le_mul_of_nonneg_right (by omega) (Int.mul_nonneg (by omega) (by omega))
  have m4 : M * (a * d + 1) ≤ M * (c * b) := Int.mul_le_mul_of_nonneg_left (by omega) (by
    have := Int.mul_pos hb hd
    omega)
  simp only [Int.mul_add, Int.add_mul, Int.mul_one, Int.one_mul, Int.mul_assoc, Int.mul_comm, Int.mul_left_comm] at m1 m2 m3 m4 hbd
  omega
theorem red_key {r c M : Int} (hr : 0 ≤ r) (hc : 0 < c) : r / Int.gcd r c * M / (c / Int.gcd r c) = r * M / c := by
  have hg : 0 < (Int.gcd r c : Int) := by
    have := Int.gcd_pos_of_ne_zero_right r (by omega : c ≠ 0)
    omega
  obtain ⟨a, ha⟩ : (Int.gcd r c : Int) ∣ r := Int.gcd_dvd_left _ _
  obtain ⟨b, hb⟩ : (Int.gcd r c : Int) ∣ c := Int.gcd_dvd_right _ _
  generalize (Int.gcd r c : Int) = g at *
  subst ha hb
  rw [Int.mul_ediv_cancel_left _ (by omega), Int.mul_ediv_cancel_left _ (by omega), Int.mul_assoc, Int.mul_ediv_mul_of_pos _ _ hg]
theorem keyG_eq {rs cs : List Int} {p : Int × Int} (h0 : 0 ≤ at' rs p.1) (h1 : 0 < at' cs p.2) : keyG rs cs p = at' rs p.1 * 10000000 / at' cs p.2 := red_key h0 h1
def rowK (rs cs : List Int) (p : Int × Int) : Int × (Int × Int) := (keyG rs cs p, p)
theorem row_toD (rs cs : List Int) (p : Int × Int) : row rs cs p = PySem.W.Datum.toD (rowK rs cs p) := rfl
theorem lt_row (rs cs : List Int) (p q : Int × Int) : PySem.W.dataLt (row rs cs p) (row rs cs q) = decide (keyG rs cs p < keyG rs cs q ∨ (keyG rs cs p = keyG rs cs q ∧ (p.1 < q.1 ∨ (p.1 = q.1 ∧ p.2 < q.2)))) := by
  rw [row_toD, row_toD, PySem.W.DatumOrd.lt_eq]
  show (if keyG rs cs p = keyG rs cs q then (if p.1 = q.1 then decide (p.2 < q.2) else decide (p.1 < q.1)) else decide (keyG rs cs p < keyG rs cs q)) = _
  by_cases h1 : keyG rs cs p = keyG rs cs q
  · by_cases h2 : p.1 = q.1
    · simp [h1, h2]
    · simp [h1, h2]
  · simp [h1]
/-- r_p / c_p is at most r_q / c_q -/
def leR (rs cs : List Int) (p q : Int × Int) : Prop := at' rs p.1 * at' cs q.2 ≤ at' rs q.1 * at' cs p.2
theorem leR_of {rs cs : List Int} (d : Drawn rs cs) {p q : Int × Int} (hp : inG rs cs p) (hq : inG rs cs q) (h : PySem.W.dataLt (row rs cs q) (row rs cs p) = false) : leR rs cs p q := by
  obtain ⟨g1, g2, g3, g4⟩ := hp
  obtain ⟨k1, k2, k3, k4⟩ := hq
  have r1 := d.r3 _ (at_mem g1 g2)
  have c1 := d.c3 _ (at_mem g3 g4)
  have r2 := d.r3 _ (at_mem k1 k2)
  have c2 := d.c3 _ (at_mem k3 k4)
  rw [lt_row, keyG_eq (by omega) (by omega), keyG_eq (by omega) (by omega)] at h
  unfold leR
  apply Classical.byContradiction
  intro hn
  have hb : at' cs q.2 * at' cs p.2 ≤ 10000000 := by
    have := Int.mul_le_mul c2.2 c1.2 (by omega) (by omega : (0 : Int) ≤ 50)
    omega
  have := key_lt (M := 10000000) (by omega : 0 < at' cs q.2) (by omega : 0 < at' cs p.2) hb (by omega : at' rs q.1 * at' cs p.2 < at' rs p.1 * at' cs q.2)
  rw [decide_eq_false_iff_not] at h
  exact h (.inl this)
theorem findG_sorted (rs cs : List Int) : ∃ gs : List (Int × Int), findG rs cs = gs.map gT ∧ gs.Perm (gearsL rs.length cs.length) ∧ gs.Pairwise fun p q => PySem.W.dataLt (row rs cs q) (row rs cs p) = false := by
  have e : (((gearsL rs.length cs.length).map (row rs cs)).mergeSort (PySem.W.dataLe false id)) = ((gearsL rs.length cs.length).mergeSort fun a b => PySem.W.dataLe false id (row rs cs a) (row rs cs b)).map (row rs cs) :=
    (PySem.W.sort_maps (row rs cs) fun _ _ _ _ => rfl).symm
  have ll : ∀ a b, PySem.W.dataLe false id (row rs cs a) (row rs cs b) = !PySem.W.dataLt (row rs cs b) (row rs cs a) := fun _ _ => rfl
  refine ⟨(gearsL rs.length cs.length).mergeSort fun a b => PySem.W.dataLe false id (row rs cs a) (row rs cs b), ?_, List.mergeSort_perm _ _, ?_⟩
  · unfold findG
    rw [e, List.map_map]
    rfl
  · have p := List.pairwise_mergeSort (le := fun a b => PySem.W.dataLe false id (row rs cs a) (row rs cs b)) (fun a b c h1 h2 => by
      simp only [ll, lt_row, Bool.not_eq_true', decide_eq_false_iff_not] at h1 h2 ⊢
      omega) (fun a b => by
      simp only [ll, lt_row, Bool.or_eq_true, Bool.not_eq_true', decide_eq_false_iff_not]
      omega) (gearsL rs.length cs.length)
    refine p.imp fun {a b} h => ?_
    simpa [ll] using h
/-! reduced fractions -/
theorem dvd_cop {x y v : Int} (h : Int.gcd x y = 1) (d : y ∣ x * v) : y ∣ v := by
  have h1 : Nat.Coprime x.natAbs y.natAbs := h
  rw [← Int.natAbs_dvd_natAbs] at d ⊢
  rw [Int.natAbs_mul] at d
  exact h1.symm.dvd_of_dvd_mul_left d
theorem red_spec {a b : Int} (hb : 0 < b) : ∃ x y g : Int, 0 < g ∧ 0 < y ∧ a = x * g ∧ b = y * g ∧ Int.gcd x y = 1 ∧ redD a b = .tuple [.int x, .int y] := by
  have hn : 0 < Int.gcd a b := Int.gcd_pos_of_ne_zero_right a (by omega : b ≠ 0)
  have hg : 0 < (Int.gcd a b : Int) := by omega
  have da : (Int.gcd a b : Int) ∣ a := Int.gcd_dvd_left _ _
  have db : (Int.gcd a b : Int) ∣ b := Int.gcd_dvd_right _ _
  exact ⟨a / Int.gcd a b, b / Int.gcd a b, Int.gcd a b, hg, Int.ediv_pos_of_pos_of_dvd hb (by omega) db, (Int.ediv_mul_cancel da).symm, (Int.ediv_mul_cancel db).symm, Int.gcd_ediv_gcd_ediv_gcd hn, rfl⟩
theorem red_eq {a b c d : Int} (hb : 0 < b) (hd : 0 < d) : redD a b = redD c d ↔ a * d = c * b := by
  obtain ⟨x, y, g, g0, y0, rfl, rfl, c1, e1⟩ := red_spec (a := a) hb
  obtain ⟨u, v, h, h0, v0, rfl, rfl, c2, e2⟩ := red_spec (a := c) hd
  rw [e1, e2]
  have key : x * g * (v * h) = u * h * (y * g) ↔ x * v = u * y := by
    have l1 : x * g * (v * h) = (x * v) * (g * h) := by simp only [Int.mul_assoc, Int.mul_comm, Int.mul_left_comm]
    have l2 : u * h * (y * g) = (u * y) * (g * h) := by simp only [Int.mul_assoc, Int.mul_comm, Int.mul_left_comm]
    rw [l1, l2]
    exact Int.mul_eq_mul_right_iff (by have := Int.mul_pos g0 h0; omega)
  rw [key]
  constructor
  · intro z
    simp only [PyData.tuple.injEq, List.cons.injEq, PyData.int.injEq, and_true] at z
    rw [z.1, z.2]
  · intro z
    have d1 : y ∣ v := by
      have : y ∣ x * v := ⟨u, by rw [z, Int.mul_comm]⟩
      exact dvd_cop c1 this
    have d2 : v ∣ y := by
      have : v ∣ u * y := ⟨x, by rw [← z, Int.mul_comm]⟩
      exact dvd_cop c2 this
    have e3 : y = v := Int.le_antisymm (Int.le_of_dvd v0 d1) (Int.le_of_dvd y0 d2)
    subst e3
    have e4 : x = u := Int.eq_of_mul_eq_mul_right (by omega) z
    rw [e4]
/-! the law's own reduction -/
theorem whl_least (Γ : Tb) (s0 s1 : Option Sl) : ∀ (n : Nat) (a b : Int), 0 ≤ a → 0 ≤ b → b < n → whlR (fun e => (evE Γ (.cmp .Gt (.var 3) (.int 0)) e).bind asB) (fun e => evSs Γ (.cons (.par [2, 3] [(false, (.var 3)), (false, (.bin .Mod (.var 2) (.var 3)))]) .nil) e) n [s0, s1, some (.v (.int a)), some (.v (.int b))] =
    .ok (.nx [s0, s1, some (.v (.int (Int.gcd a b))), some (.v (.int 0))])
  | 0, a, b, _, h1, h2 => by omega
  | n + 1, a, b, h0, h1, h2 => by
    by_cases hb : 0 < b
    · have hm := Int.emod_nonneg a (by omega : b ≠ 0)
      have hl := Int.emod_lt_of_pos a hb
      have ih := whl_least Γ s0 s1 n b (a % b) (by omega) hm (by omega)
      have ge := gcd_step h0 hb
      rw [ge] at ih
      rw [← ih]
      exact whl_step (by simp [hb]) (by simp [bn_mod, hb])
    · have e : b = 0 := by omega
      subst e
      have e2 : ((Int.gcd a 0 : Nat) : Int) = a := by
        rw [Int.gcd_zero_right]
        omega
      rw [e2]
      exact whl_stop (by simp)
def m__law_least : List PyData → Res PyData
  | [.int a, .int b] => if 0 ≤ a ∧ 0 < b ∧ b < 1000000000000 then .ok (redD a b) else .no
  | _ => .no
theorem ok__law_least (Γ : Tb) (ds : List PyData) : m__law_least ds = .no ∨ runB Γ 4 (B__law_least 1000000000000) ds = m__law_least ds := by
  unfold m__law_least
  split
  · split
    · rename_i a b h
      have g := gcd_small (a := a) h.2.1 h.2.2
      have d1 := bn_div a _ g
      have d2 := bn_div b _ g
      have hw : evS Γ (.whl 1000000000000 (.cmp .Gt (.var 3) (.int 0)) (.cons (.par [2, 3] [(false, (.var 3)), (false, (.bin .Mod (.var 2) (.var 3)))]) .nil)) [some (.v (.int a)), some (.v (.int b)), some (.v (.int a)), some (.v (.int b))] = _ := (ts_whl Γ _ _ _ _).trans (whl_least Γ _ _ 1000000000000 a b h.1 (by omega) (by omega))
      exact .inr (by simp [runB, startV, B__law_least, hw, d1, d2, redD])
    · exact .inl rfl
  · exact .inl rfl
/-! the gear that comes nearest -/
def prodI (cs : List Int) : Int := cs.foldl (fun u c => u * c) 1
def scoreI (rs cs : List Int) (w t y : Int) (p : Int × Int) : Int := (if at' rs p.1 * w * t - y * at' cs p.2 < 0 then -(at' rs p.1 * w * t - y * at' cs p.2) else at' rs p.1 * w * t - y * at' cs p.2) * (prodI cs / at' cs p.2)
def scoreK (rs cs : List Int) (w t y : Int) (p : Int × Int) : Int × (Int × Int) := (scoreI rs cs w t y p, p)
theorem ltK (x y : Int × (Int × Int)) : PySem.W.DatumOrd.lt x y = decide (x.1 < y.1 ∨ (x.1 = y.1 ∧ (x.2.1 < y.2.1 ∨ (x.2.1 = y.2.1 ∧ x.2.2 < y.2.2)))) := by
  show (if x.1 = y.1 then (if x.2.1 = y.2.1 then decide (x.2.2 < y.2.2) else decide (x.2.1 < y.2.1)) else decide (x.1 < y.1)) = _
  by_cases h1 : x.1 = y.1
  · by_cases h2 : x.2.1 = y.2.1
    · simp [h1, h2]
    · simp [h1, h2]
  · simp [h1]
theorem minOf_spec : ∀ (xs : List (Int × (Int × Int))) (x : Int × (Int × Int)), PySem.W.minOf x xs ∈ x :: xs ∧ ∀ y ∈ x :: xs, PySem.W.DatumOrd.lt y (PySem.W.minOf x xs) = false
  | [], x => ⟨by simp [PySem.W.minOf], fun y hy => by
    have e : y = x := by simpa using hy
    subst e
    simp [PySem.W.minOf, ltK]⟩
  | z :: zs, x => by
    have e : PySem.W.minOf x (z :: zs) = PySem.W.minOf (if PySem.W.DatumOrd.lt z x = true then z else x) zs := rfl
    rw [e]
    obtain ⟨h1, h2⟩ := minOf_spec zs (if PySem.W.DatumOrd.lt z x = true then z else x)
    have h3 := h2 _ List.mem_cons_self
    generalize PySem.W.minOf (if PySem.W.DatumOrd.lt z x = true then z else x) zs = m at *
    refine ⟨?_, fun y hy => ?_⟩
    · rcases List.mem_cons.mp h1 with h | h
      · rw [h]
        split
        · exact List.mem_cons_of_mem _ List.mem_cons_self
        · exact List.mem_cons_self
      · exact List.mem_cons_of_mem _ (List.mem_cons_of_mem _ h)
    · have two : PySem.W.DatumOrd.lt x m = false ∧ PySem.W.DatumOrd.lt z m = false := by
        by_cases c : PySem.W.DatumOrd.lt z x = true
        · rw [if_pos c] at h3
          refine ⟨?_, h3⟩
          rw [ltK] at c h3 ⊢
          rw [decide_eq_true_eq] at c
          rw [decide_eq_false_iff_not] at h3 ⊢
          omega
        · rw [if_neg c] at h3
          refine ⟨h3, ?_⟩
          rw [ltK] at c h3 ⊢
          rw [decide_eq_true_eq] at c
          rw [decide_eq_false_iff_not] at h3 ⊢
          omega
      rcases List.mem_cons.mp hy with rfl | hy
      · exact two.1
      · rcases List.mem_cons.mp hy with rfl | hy
        · exact two.2
        · exact h2 y (List.mem_cons_of_mem _ hy)
def bestG (rs cs : List Int) (w t y : Int) : List (Int × Int) → Int × Int
  | [] => (0, 0)
  | p :: ps => (PySem.W.minOf (scoreK rs cs w t y p) (ps.map (scoreK rs cs w t y))).2
def m_gear_for : List PyData → Res PyData
  | [b, .int w, .int t, .int y] => rdB b fun rs cs => if okB rs cs = true ∧ wheelB w = true ∧ turnsB t = true ∧ wayB y = true ∧ 1 ≤ rs.length ∧ 1 ≤ cs.length then .ok (gT (bestG rs cs w t y (gearsL rs.length cs.length))) else .no
  | _ => .no
theorem for_prod {F : PyData → Ev → Res Fl} (mk : Option Sl → Option Sl → Ev) : ∀ (xs : List Int) (k : Option Sl) (u : Int), (∀ x ∈ xs, ∀ k u, F (.int x) (mk k (some (.v (.int u)))) = .ok (.nx (mk (some (.v (.int x))) (some (.v (.int (u * x))))))) →
    ∃ k', forR F (xs.map .int) (mk k (some (.v (.int u)))) = .ok (.nx (mk k' (some (.v (.int (xs.foldl (fun u c => u * c) u))))))
  | [], k, u, _ => ⟨k, by simp [forR]⟩
  | x :: xs, k, u, h => by
    obtain ⟨k', e⟩ := for_prod mk xs (some (.v (.int x))) (u * x) fun y hy => h y (List.mem_cons_of_mem _ hy)
    refine ⟨k', ?_⟩
    rw [List.map_cons]
    unfold forR
    rw [h x List.mem_cons_self, bind_ok]
    simp only
    rw [e]
    rfl
theorem min_rows (rs cs : List Int) (w t y : Int) (p : Int × Int) (ps : List (Int × Int)) : dBlt .minL [.list ((p :: ps).map fun q => .tuple [.int (scoreI rs cs w t y q), gT q])] = .ok (.tuple [.int (scoreI rs cs w t y (bestG rs cs w t y (p :: ps))), gT (bestG rs cs w t y (p :: ps))]) := by
  have e : ∀ q, PyData.tuple [.int (scoreI rs cs w t y q), gT q] = PySem.W.Datum.toD (scoreK rs cs w t y q) := fun _ => rfl
  have e2 : ((p :: ps).map fun q => PyData.tuple [.int (scoreI rs cs w t y q), gT q]) = PySem.W.Datum.toD (scoreK rs cs w t y p) :: (ps.map (scoreK rs cs w t y)).map PySem.W.Datum.toD := by
    rw [List.map_cons, List.map_map]
    rfl
  have hm : minable ((p :: ps).map fun q => PyData.tuple [.int (scoreI rs cs w t y q), gT q]) = true := by
    have e1 : ∀ qs : List (Int × Int), PyData.plainAll (qs.map fun q => PyData.tuple [.int (scoreI rs cs w t y q), gT q]) = true := fun qs => by
      induction qs with
      | nil => rfl
      | cons p ps ih =>
        have g : (gT p).plain = true := rfl
        simp [PyData.plainAll, PyData.plain, g, ih]
    have e3 : ∀ qs : List (Int × Int), PyData.depthAll (qs.map fun q => PyData.tuple [.int (scoreI rs cs w t y q), gT q]) ≤ 10 := fun qs => by
      induction qs with
      | nil => simp [PyData.depthAll]
      | cons p ps ih =>
        simp [PyData.depthAll, PyData.depth, gT] at ih ⊢
        omega
    unfold minable
    rw [e1]
    simp only [Bool.true_and, Bool.and_eq_true, List.all_eq_true, decide_eq_true_eq]
    refine ⟨⟨fun d hd e he => ?_, fun d hd => ?_⟩, Nat.le_trans (e3 _) (by decide)⟩
    · obtain ⟨p, _, rfl⟩ := List.mem_map.mp hd
      obtain ⟨q, _, rfl⟩ := List.mem_map.mp he
      rfl
    · obtain ⟨p, _, rfl⟩ := List.mem_map.mp hd
      rfl
  have mem := (minOf_spec (ps.map (scoreK rs cs w t y)) (scoreK rs cs w t y p)).1
  have sc : PySem.W.minOf (scoreK rs cs w t y p) (ps.map (scoreK rs cs w t y)) = scoreK rs cs w t y (bestG rs cs w t y (p :: ps)) := by
    have m2 : PySem.W.minOf (scoreK rs cs w t y p) (ps.map (scoreK rs cs w t y)) ∈ (p :: ps).map (scoreK rs cs w t y) := mem
    obtain ⟨q, _, hq⟩ := List.mem_map.mp m2
    have b : bestG rs cs w t y (p :: ps) = q := by
      show (PySem.W.minOf (scoreK rs cs w t y p) (ps.map (scoreK rs cs w t y))).2 = q
      rw [← hq]
      rfl
    rw [b, hq]
  have hm2 := hm
  rw [e2] at hm2 ⊢
  show (if minable _ = true then Res.ok (PySem.W.minD _ _) else .no) = _
  rw [if_pos hm2, PySem.W.minD_map, sc]
  rfl
theorem ok_gear_for (Γ : Tb) (k1 k2 k3 k4 k5 : Nat) (h1 : (Γ k1).run = m_check_bike) (h2 : (Γ k2).run = m_all_gears) (h3 : (Γ k3).run = m_check_wheel) (h4 : (Γ k4).run = m_check_turns) (h5 : (Γ k5).run = m_check_way) (ds : List PyData) : m_gear_for ds = .no ∨ runB Γ 8 (B_gear_for k1 k2 k3 k4 k5) ds = m_gear_for ds := by
  unfold m_gear_for
  split
  · rename_i b w t y
    rcases rdB_no (b := b) (f := fun rs cs => if okB rs cs = true ∧ wheelB w = true ∧ turnsB t = true ∧ wayB y = true ∧ 1 ≤ rs.length ∧ 1 ≤ cs.length then Res.ok (gT (bestG rs cs w t y (gearsL rs.length cs.length))) else .no) with e | ⟨rs, cs, rfl⟩
    · exact .inl e
    · rw [rdB_eq]
      split
      · rename_i h
        obtain ⟨q1, q2, q3, q4, n1, n2⟩ := h
        obtain ⟨b1, b2, b3, b4⟩ := bikeB_ok (okB_ok q1).1
        have few := gears_few b1 b2
        have c1 := check_bike_at h1 q1
        have c2 := all_gears_at h2 b1 b2
        have c3 := check_wheel_at h3 q2
        have c4 := check_turns_at h4 q3
        have c6 := check_way_at h5 q4
        simp only [wheelB, turnsB, wayB, Bool.and_eq_true, decide_eq_true_eq] at q2 q3 q4
        have y1 : dIx (bk rs cs) (.int 0) = .ok (.tuple (rs.map .int)) := ix_t0 _ _
        have y2 : dIx (bk rs cs) (.int 1) = .ok (.tuple (cs.map .int)) := ix_t1 _ _ _
        obtain ⟨kk, w0⟩ := for_prod (F := fun x e => (bindT (.one 4) x e).bind fun e' => evSs Γ (.cons (.asg 5 (.bin .Mult (.var 5) (.var 4))) .nil) e') (fun k u => [some (.v (bk rs cs)), some (.v (.int w)), some (.v (.int t)), some (.v (.int y)), k, u, some (.l []), none]) cs none 1 (fun x hx k u => by
          have hx := b4 x hx
          have m := bn_mulr u x (smallI_few (by omega) (by omega))
          simp [m])
        have f0 : evS Γ (.for_ (.one 4) (.val (.ix (.var 0) (.int 1))) (.cons (.asg 5 (.bin .Mult (.var 5) (.var 4))) .nil)) [some (.v (bk rs cs)), some (.v (.int w)), some (.v (.int t)), some (.v (.int y)), none, some (.v (.int 1)), some (.l []), none] =
            .ok (.nx [some (.v (bk rs cs)), some (.v (.int w)), some (.v (.int t)), some (.v (.int y)), kk, some (.v (.int (prodI cs))), some (.l []), none]) := by
          have ei : evI Γ (.val (.ix (.var 0) (.int 1))) [some (.v (bk rs cs)), some (.v (.int w)), some (.v (.int t)), some (.v (.int y)), none, some (.v (.int 1)), some (.l []), none] = .ok (cs.map .int) := by simp [y2]
          rw [ts_for, ei, bind_ok, w0]
          rfl
        obtain ⟨a', b', c', w1⟩ := for_keep (F := fun x e => (bindT (.tup [7, 4]) x e).bind fun e' => evSs Γ (.cons (.app 6 (.tup (.cons (.bin .Mult (.blt .abs (.cons (.bin .Sub (.bin .Mult (.bin .Mult (.ix (.ix (.var 0) (.int 0)) (.var 7)) (.var 1)) (.var 2)) (.bin .Mult (.var 3) (.ix (.ix (.var 0) (.int 1)) (.var 4)))) .nil)) (.bin .FloorDiv (.var 5) (.ix (.ix (.var 0) (.int 1)) (.var 4)))) (.cons (.tup (.cons (.var 7) (.cons (.var 4) .nil))) .nil))))
    .nil) e') (fun acc a b _ => [some (.v (bk rs cs)), some (.v (.int w)), some (.v (.int t)), some (.v (.int y)), a, some (.v (.int (prodI cs))), some (.l acc), b]) (fun q => .tuple [.int (scoreI rs cs w t y q), gT q]) (fun _ => true) (gearsL rs.length cs.length) [] kk none none (by simp; omega) (fun p hp acc a b c hl => by
          have hp2 : inG rs cs p := mem_gearsL.mp hp
          obtain ⟨r0, r1, r2, r3⟩ := gear_bounds q1 hp2
          obtain ⟨g1, g2, g3, g4⟩ := hp2
          have x1 := dIx_int (xs := rs) g1 g2
          have x2 := dIx_int (xs := cs) g3 g4
          have m1 := bn_mulk (at' rs p.1) w (smallI_few (by omega) (by omega))
          have m2 := bn_mulr (at' rs p.1 * w) t (smallI_few (by omega) (by omega))
          have m4 := bn_mulk y (at' cs p.2) (smallI_few (by omega) (by omega))
          have dv := bn_div (prodI cs) (at' cs p.2) (small_div (by omega) (by omega))
          have u1 : at' rs p.1 * w ≤ 1000 * 250 := Int.mul_le_mul r1 q2.2 (by omega) (by omega)
          have u0 : 0 ≤ at' rs p.1 * w := Int.mul_nonneg r0 (by omega)
          have u2 : at' rs p.1 * w * t ≤ 1000 * 250 * 150 := Int.mul_le_mul u1 q3.2 (by omega) (by omega)
          have u3 : 0 ≤ at' rs p.1 * w * t := Int.mul_nonneg u0 (by omega)
          have u4 : y * at' cs p.2 ≤ 100000 * 1000 := Int.mul_le_mul q4.2 r3 (by omega) (by omega)
          have u5 : 0 ≤ y * at' cs p.2 := Int.mul_nonneg (by omega) (by omega)
          obtain ⟨df, hdf⟩ : ∃ df, df = at' rs p.1 * w * t - y * at' cs p.2 := ⟨_, rfl⟩
          have sb : dBin .Sub (.int (at' rs p.1 * w * t)) (.int (y * at' cs p.2)) = .ok (.int df) := by rw [hdf]; rfl
          obtain ⟨ad, had⟩ : ∃ ad, ad = (if df < 0 then -df else df) := ⟨_, rfl⟩
          have ab : dBlt .abs [.int df] = .ok (.int ad) := by rw [had]; rfl
          have m5 : dBin .Mult (.int ad) (.int (prodI cs / at' cs p.2)) = .ok (.int (scoreI rs cs w t y p)) := by
            have es : scoreI rs cs w t y p = ad * (prodI cs / at' cs p.2) := by
              unfold scoreI
              rw [had, hdf]
            rw [es]
            refine bn_mulk _ _ ?_
            rw [had]
            split
            · exact smallI_few (by omega) (by omega)
            · exact smallI_few (by omega) (by omega)
          have z : acc.length < sizeLine := Nat.lt_of_le_of_lt hl (by decide)
          have bt : bindT (.tup [7, 4]) (gT p) [some (.v (bk rs cs)), some (.v (.int w)), some (.v (.int t)), some (.v (.int y)), a, some (.v (.int (prodI cs))), some (.l acc), b] = .ok [some (.v (bk rs cs)), some (.v (.int w)), some (.v (.int t)), some (.v (.int y)), some (.v (.int p.2)), some (.v (.int (prodI cs))), some (.l acc), some (.v (.int p.1))] := rfl
          refine ⟨some (.v (.int p.2)), some (.v (.int p.1)), none, ?_⟩
          rw [bt]
          simp [y1, y2, x1, x2, m1, m2, m4, sb, -bn_sub, ab, dv, m5, z]
          rfl)
        have f1 : evS Γ (.for_ (.tup [7, 4]) (.val (.call k2 (.cons (.var 0) .nil)))
    (.cons (.app 6 (.tup (.cons (.bin .Mult (.blt .abs (.cons (.bin .Sub (.bin .Mult (.bin .Mult (.ix (.ix (.var 0) (.int 0)) (.var 7)) (.var 1)) (.var 2)) (.bin .Mult (.var 3) (.ix (.ix (.var 0) (.int 1)) (.var 4)))) .nil)) (.bin .FloorDiv (.var 5) (.ix (.ix (.var 0) (.int 1)) (.var 4)))) (.cons (.tup (.cons (.var 7) (.cons (.var 4) .nil))) .nil))))
    .nil)) [some (.v (bk rs cs)), some (.v (.int w)), some (.v (.int t)), some (.v (.int y)), kk, some (.v (.int (prodI cs))), some (.l []), none] = .ok (.nx [some (.v (bk rs cs)), some (.v (.int w)), some (.v (.int t)), some (.v (.int y)), a', some (.v (.int (prodI cs))), some (.l ((gearsL rs.length cs.length).map fun q => .tuple [.int (scoreI rs cs w t y q), gT q])), b']) := by
          have ei : evI Γ (.val (.call k2 (.cons (.var 0) .nil))) [some (.v (bk rs cs)), some (.v (.int w)), some (.v (.int t)), some (.v (.int y)), kk, some (.v (.int (prodI cs))), some (.l []), none] = .ok ((gearsL rs.length cs.length).map gT) := by simp [c2]
          rw [ts_for, ei, bind_ok, w1, List.filter_eq_self.mpr (fun _ _ => rfl)]
          rfl
        obtain ⟨p, ps, hps⟩ : ∃ p ps, gearsL rs.length cs.length = p :: ps := by
          cases hg : gearsL rs.length cs.length with
          | nil =>
            have := gearsL_len rs.length cs.length
            rw [hg] at this
            have := Nat.mul_le_mul n1 n2
            simp at *
            omega
          | cons p ps => exact ⟨p, ps, rfl⟩
        have mr := min_rows rs cs w t y p ps
        rw [← hps] at mr
        exact .inr (by simp [runB, startV, B_gear_for, c1, c3, c4, c6, f0, f1, mr])
      · exact .inl rfl
  · exact .inl rfl
end Cg

namespace Cg
open PySem PySem.Spec PyProof.Rows L2
/-! ### 24. texts of the defs that several laws share -/
def N_is_gear : List Str := ["bike", "candidate"]
def B_is_gear (k_has_gear k_check_bike : Nat) : Ss := (.cons (.drop (.call k_check_bike (.cons (.var 0) .nil)))
    (.cons (.ret (.call k_has_gear (.cons (.var 0) (.cons (.var 1) .nil))))
    .nil))
def N__law_part : List Str := ["_law_above", "_law_below", "_law_part_here", "_law_k"]
def E1__law_part : C := (.lcf (.var 3) (.one 3) (.rng2 (.int 1) (.bin .Add (.blt .min2 (.cons (.var 0) (.cons (.var 1) .nil))) (.int 1))) (.and (.cmp .Eq (.bin .Mod (.var 0) (.var 3)) (.int 0)) (.and1 (.cmp .Eq (.bin .Mod (.var 1) (.var 3)) (.int 0)))) [("_law_k", 3)])
def B__law_part : Ss := (.cons (.asg 2 (.blt .maxL (.cons E1__law_part .nil)))
    (.cons (.ret (.tup (.cons (.bin .FloorDiv (.var 0) (.var 2)) (.cons (.bin .FloorDiv (.var 1) (.var 2)) .nil))))
    .nil))
def N__law_table : List Str := ["_law_ride_here", "_law_found", "_law_i", "_law_j"]
def L1__law_table (k__law_part : Nat) : S := (.for_ (.one 3) (.rng1 (.blt .len (.cons (.ix (.var 0) (.int 1)) .nil)))
    (.cons (.dput 1 (.tup (.cons (.var 2) (.cons (.var 3) .nil))) (.call k__law_part (.cons (.ix (.ix (.var 0) (.int 0)) (.var 2)) (.cons (.ix (.ix (.var 0) (.int 1)) (.var 3)) .nil))))
    .nil))
def L2__law_table (k__law_part : Nat) : S := (.for_ (.one 2) (.rng1 (.blt .len (.cons (.ix (.var 0) (.int 0)) .nil)))
    (.cons (L1__law_table k__law_part)
    .nil))
def B__law_table (k__law_part : Nat) : Ss := (.cons (.dnew 1 true)
    (.cons (L2__law_table k__law_part)
    (.cons (.frz 1)
    (.cons (.ret (.var 1))
    .nil))))
def N__law_less : List Str := ["_law_one", "_law_other"]
def B__law_less : Ss := (.cons (.ret (.cmp .Lt (.bin .Mult (.ix (.var 0) (.int 0)) (.ix (.var 1) (.int 1))) (.bin .Mult (.ix (.var 1) (.int 0)) (.ix (.var 0) (.int 1)))))
    .nil)
def N__law_rising : List Str := ["_law_ratios", "_law_found", "_law_one", "_law_k", "_law_other"]
def E1__law_rising (k__law_less : Nat) : C := (.lcf (.var 4) (.one 4) (.val (.var 1)) (.call k__law_less (.cons (.var 4) (.cons (.var 2) .nil))) [("_law_other", 4)])
def L1__law_rising (k__law_less : Nat) : S := (.for_ (.one 2) (.val (.var 0))
    (.cons (.ife (.cmp .NotIn (.var 2) (.var 1))
    (.cons (.asg 3 (.blt .len (.cons (E1__law_rising k__law_less) .nil)))
    (.cons (.asg 1 (.bin .Add (.bin .Add (.slc (.var 1) .none (.some (.var 3))) (.lst (.cons (.var 2) .nil))) (.slc (.var 1) (.some (.var 3)) .none)))
    .nil))
    .nil)
    .nil))
def B__law_rising (k__law_less : Nat) : Ss := (.cons (.asg 1 (.lst .nil))
    (.cons (L1__law_rising k__law_less)
    (.cons (.ret (.var 1))
    .nil)))
def N_find_ladder : List Str := ["bike", "found", "gear", "fraction"]
def L1_find_ladder (k_find_ratio k_find_gears : Nat) : S := (.for_ (.one 2) (.val (.call k_find_gears (.cons (.var 0) .nil)))
    (.cons (.asg 3 (.call k_find_ratio (.cons (.var 0) (.cons (.var 2) .nil))))
    (.cons (.ife (.cmp .NotEq (.slc (.bor 1) (.some (.neg (.int 1))) .none) (.lst (.cons (.var 3) .nil)))
    (.cons (.app 1 (.var 3))
    .nil)
    .nil)
    .nil)))
def B_find_ladder (k_find_ratio k_find_gears : Nat) : Ss := (.cons (.own 1 (.lst .nil))
    (.cons (L1_find_ladder k_find_ratio k_find_gears)
    (.cons (.frz 1)
    (.cons (.ret (.var 1))
    .nil))))
def N_ladder : List Str := ["bike"]
def B_ladder (k_check_bike k_find_ladder : Nat) : Ss := (.cons (.drop (.call k_check_bike (.cons (.var 0) .nil)))
    (.cons (.ret (.call k_find_ladder (.cons (.var 0) .nil)))
    .nil))
def N_count_ratios : List Str := ["bike"]
def B_count_ratios (k_check_bike k_find_ladder : Nat) : Ss := (.cons (.drop (.call k_check_bike (.cons (.var 0) .nil)))
    (.cons (.ret (.blt .len (.cons (.call k_find_ladder (.cons (.var 0) .nil)) .nil)))
    .nil))
def N_are_different : List Str := ["bike"]
def B_are_different (k_check_bike k_all_gears k_find_ladder : Nat) : Ss := (.cons (.drop (.call k_check_bike (.cons (.var 0) .nil)))
    (.cons (.ret (.cmp .Eq (.blt .len (.cons (.call k_find_ladder (.cons (.var 0) .nil)) .nil)) (.blt .len (.cons (.call k_all_gears (.cons (.var 0) .nil)) .nil))))
    .nil))
def N_is_ratio : List Str := ["value", "part"]
def E1_is_ratio (k_is_int : Nat) : C := (.lc (.call k_is_int (.cons (.var 1) (.cons (.int 1) (.cons (.glo "MAX_RING" (.int 60)) .nil)))) (.one 1) (.val (.var 0)) [("part", 1)])
def B_is_ratio (k_is_int k_divisor : Nat) : Ss := (.cons (.ife (.or (.nt (.isi .tuple (.var 0))) (.or (.cmp .NotEq (.blt .len (.cons (.var 0) .nil)) (.int 2)) (.or1 (.nt (.blt .all (.cons (E1_is_ratio k_is_int) .nil))))))
    (.cons (.ret (.bl false))
    .nil)
    .nil)
    (.cons (.ret (.cmp .Eq (.call k_divisor (.cons (.ix (.var 0) (.int 0)) (.cons (.ix (.var 0) (.int 1)) .nil))) (.int 1)))
    .nil))
def N_find_with : List Str := ["bike", "wanted", "gear"]
def E1_find_with (k_find_ratio k_all_gears : Nat) : C := (.lcf (.var 2) (.one 2) (.val (.call k_all_gears (.cons (.var 0) .nil))) (.cmp .Eq (.call k_find_ratio (.cons (.var 0) (.cons (.var 2) .nil))) (.var 1)) [("gear", 2)])
def B_find_with (k_find_ratio k_all_gears : Nat) : Ss := (.cons (.ret (E1_find_with k_find_ratio k_all_gears))
    .nil)
def N_gears_with : List Str := ["bike", "wanted"]
def B_gears_with (k_check_bike k_is_ratio k_find_with : Nat) : Ss := (.cons (.drop (.call k_check_bike (.cons (.var 0) .nil)))
    (.cons (.ife (.nt (.call k_is_ratio (.cons (.var 1) .nil)))
    (.cons (.rse "InvalidRatio")
    .nil)
    .nil)
    (.cons (.ret (.call k_find_with (.cons (.var 0) (.cons (.var 1) .nil))))
    .nil)))
def N_quotient : List Str := ["one", "other"]
def B_quotient (k_reduced : Nat) : Ss := (.cons (.ret (.call k_reduced (.cons (.bin .Mult (.ix (.var 0) (.int 0)) (.ix (.var 1) (.int 1))) (.cons (.bin .Mult (.ix (.var 0) (.int 1)) (.ix (.var 1) (.int 0))) .nil))))
    .nil)
def N_find_steps : List Str := ["bike", "known", "one", "other"]
def E1_find_steps (k_quotient : Nat) : C := (.lc (.call k_quotient (.cons (.var 3) (.cons (.var 2) .nil))) (.tup [2, 3]) (.zip (.var 1) (.slc (.var 1) (.some (.int 1)) .none)) [("one", 2), ("other", 3)])
def B_find_steps (k_find_ladder k_quotient : Nat) : Ss := (.cons (.asg 1 (.call k_find_ladder (.cons (.var 0) .nil)))
    (.cons (.ret (E1_find_steps k_quotient))
    .nil))
def N_extreme_step : List Str := ["bike", "sign", "found", "step"]
def L1_extreme_step (k_order_of k_find_steps : Nat) : S := (.for_ (.one 3) (.val (.call k_find_steps (.cons (.var 0) .nil)))
    (.cons (.ife (.or (.cmp .Is (.var 2) .non) (.or1 (.cmp .Eq (.call k_order_of (.cons (.var 3) (.cons (.var 2) .nil))) (.var 1))))
    (.cons (.asg 2 (.var 3))
    .nil)
    .nil)
    .nil))
def B_extreme_step (k_check_bike k_order_of k_find_steps : Nat) : Ss := (.cons (.drop (.call k_check_bike (.cons (.var 0) .nil)))
    (.cons (.asg 2 .non)
    (.cons (L1_extreme_step k_order_of k_find_steps)
    (.cons (.ret (.var 2))
    .nil))))
def N_widest_step : List Str := ["bike"]
def B_widest_step (k_extreme_step : Nat) : Ss := (.cons (.ret (.call k_extreme_step (.cons (.var 0) (.cons (.int 1) .nil))))
    .nil)
def N_narrowest_step : List Str := ["bike"]
def B_narrowest_step (k_extreme_step : Nat) : Ss := (.cons (.ret (.call k_extreme_step (.cons (.var 0) (.cons (.neg (.int 1)) .nil))))
    .nil)
def N_near_pairs : List Str := ["bike", "percent", "known", "pair"]
def E1_near_pairs (k_order_of k_quotient : Nat) : C := (.lcf (.var 3) (.one 3) (.zip1 (.var 2) (.slc (.var 2) (.some (.int 1)) .none)) (.cmp .LtE (.call k_order_of (.cons (.call k_quotient (.cons (.ix (.var 3) (.int 1)) (.cons (.ix (.var 3) (.int 0)) .nil))) (.cons (.tup (.cons (.bin .Add (.int 100) (.var 1)) (.cons (.int 100) .nil))) .nil))) (.int 0)) [("pair", 3)])
def B_near_pairs (k_is_int k_check_bike k_order_of k_find_ladder k_quotient : Nat) : Ss := (.cons (.drop (.call k_check_bike (.cons (.var 0) .nil)))
    (.cons (.ife (.nt (.call k_is_int (.cons (.var 1) (.cons (.int 0) (.cons (.int 100) .nil)))))
    (.cons (.rse "InvalidPercent")
    .nil)
    .nil)
    (.cons (.asg 2 (.call k_find_ladder (.cons (.var 0) .nil)))
    (.cons (.ret (E1_near_pairs k_order_of k_quotient))
    .nil))))
def N_count_shifts : List Str := ["one", "other"]
def B_count_shifts : Ss := (.cons (.ret (.bin .Add (.blt .abs (.cons (.bin .Sub (.ix (.var 0) (.int 0)) (.ix (.var 1) (.int 0))) .nil)) (.blt .abs (.cons (.bin .Sub (.ix (.var 0) (.int 1)) (.ix (.var 1) (.int 1))) .nil))))
    .nil)
def N_shifts : List Str := ["bike", "one", "other"]
def B_shifts (k_check_bike k_check_gear k_count_shifts : Nat) : Ss := (.cons (.drop (.call k_check_bike (.cons (.var 0) .nil)))
    (.cons (.drop (.call k_check_gear (.cons (.var 0) (.cons (.var 1) .nil))))
    (.cons (.drop (.call k_check_gear (.cons (.var 0) (.cons (.var 2) .nil))))
    (.cons (.ret (.call k_count_shifts (.cons (.var 1) (.cons (.var 2) .nil))))
    .nil))))
def N_nearest_gear : List Str := ["bike", "gear", "fraction", "other"]
def E1_nearest_gear (k_find_with k_count_shifts : Nat) : C := (.lc (.tup (.cons (.call k_count_shifts (.cons (.var 1) (.cons (.var 3) .nil))) (.cons (.var 3) .nil))) (.one 3) (.val (.call k_find_with (.cons (.var 0) (.cons (.var 2) .nil)))) [("other", 3)])
def B_nearest_gear (k_find_with k_count_shifts : Nat) : Ss := (.cons (.ret (.ix (.blt .minL (.cons (E1_nearest_gear k_find_with k_count_shifts) .nil)) (.int 1)))
    .nil)
def N_higher_gear : List Str := ["bike", "gear", "known", "place"]
def B_higher_gear (k_check_bike k_check_gear k_find_ratio k_find_ladder k_nearest_gear : Nat) : Ss := (.cons (.drop (.call k_check_bike (.cons (.var 0) .nil)))
    (.cons (.drop (.call k_check_gear (.cons (.var 0) (.cons (.var 1) .nil))))
    (.cons (.asg 2 (.call k_find_ladder (.cons (.var 0) .nil)))
    (.cons (.asg 3 (.bin .Add (.mth (.var 2) "index" (.call k_find_ratio (.cons (.var 0) (.cons (.var 1) .nil)))) (.int 1)))
    (.cons (.ret (.ife (.cmp .Lt (.var 3) (.blt .len (.cons (.var 2) .nil))) (.call k_nearest_gear (.cons (.var 0) (.cons (.var 1) (.cons (.ix (.var 2) (.var 3)) .nil)))) .non))
    .nil)))))
def N_lower_gear : List Str := ["bike", "gear", "known", "place"]
def B_lower_gear (k_check_bike k_check_gear k_find_ratio k_find_ladder k_nearest_gear : Nat) : Ss := (.cons (.drop (.call k_check_bike (.cons (.var 0) .nil)))
    (.cons (.drop (.call k_check_gear (.cons (.var 0) (.cons (.var 1) .nil))))
    (.cons (.asg 2 (.call k_find_ladder (.cons (.var 0) .nil)))
    (.cons (.asg 3 (.bin .Sub (.mth (.var 2) "index" (.call k_find_ratio (.cons (.var 0) (.cons (.var 1) .nil)))) (.int 1)))
    (.cons (.ret (.ife (.cmp .GtE (.var 3) (.int 0)) (.call k_nearest_gear (.cons (.var 0) (.cons (.var 1) (.cons (.ix (.var 2) (.var 3)) .nil)))) .non))
    .nil)))))
def N_find_climb : List Str := ["bike", "rows", "fraction", "more", "gear", "ways", "cost", "way"]
def E1_find_climb (k_count_shifts : Nat) : C := (.lc (.tup (.cons (.bin .Add (.ife (.cmp .NotEq (.var 7) (.lst .nil)) (.call k_count_shifts (.cons (.var 4) (.cons (.ix (.var 7) (.int 0)) .nil))) (.int 0)) (.var 6)) (.cons (.bin .Add (.lst (.cons (.var 4) .nil)) (.var 7)) .nil))) (.tup [6, 7]) (.val (.var 1)) [("cost", 6), ("way", 7)])
def L1_find_climb (k_find_with k_count_shifts : Nat) : S := (.for_ (.one 4) (.val (.call k_find_with (.cons (.var 0) (.cons (.var 2) .nil))))
    (.cons (.asg 5 (E1_find_climb k_count_shifts))
    (.cons (.app 3 (.blt .minL (.cons (.var 5) .nil)))
    .nil)))
def L2_find_climb (k_find_ladder k_find_with k_count_shifts : Nat) : S := (.for_ (.one 2) (.val (.rev (.call k_find_ladder (.cons (.var 0) .nil))))
    (.cons (.own 3 (.lst .nil))
    (.cons (L1_find_climb k_find_with k_count_shifts)
    (.cons (.frz 3)
    (.cons (.asg 1 (.var 3))
    .nil)))))
def B_find_climb (k_find_ladder k_find_with k_count_shifts : Nat) : Ss := (.cons (.asg 1 (.lst (.cons (.tup (.cons (.int 0) (.cons (.lst .nil) .nil))) .nil)))
    (.cons (L2_find_climb k_find_ladder k_find_with k_count_shifts)
    (.cons (.ret (.blt .minL (.cons (.var 1) .nil)))
    .nil)))
def N_fewest_shifts : List Str := ["bike"]
def B_fewest_shifts (k_check_bike k_find_climb : Nat) : Ss := (.cons (.drop (.call k_check_bike (.cons (.var 0) .nil)))
    (.cons (.ret (.ix (.call k_find_climb (.cons (.var 0) .nil)) (.int 0)))
    .nil))
def N_best_climb : List Str := ["bike"]
def B_best_climb (k_check_bike k_find_climb : Nat) : Ss := (.cons (.drop (.call k_check_bike (.cons (.var 0) .nil)))
    (.cons (.ret (.ix (.call k_find_climb (.cons (.var 0) .nil)) (.int 1)))
    .nil))
def N_check_width : List Str := ["bike", "width"]
def B_check_width (k_is_int k_check_bike : Nat) : Ss := (.cons (.drop (.call k_check_bike (.cons (.var 0) .nil)))
    (.cons (.ife (.nt (.call k_is_int (.cons (.var 1) (.cons (.int 0) (.cons (.glo "MAX_WIDTH" (.int 8)) .nil)))))
    (.cons (.rse "InvalidWidth")
    .nil)
    .nil)
    .nil))
def N_crosses : List Str := ["bike", "width", "gear", "rings", "cogs"]
def B_crosses : Ss := (.cons (.par [3, 4] [(false, (.blt .len (.cons (.ix (.var 0) (.int 0)) .nil))), (false, (.blt .len (.cons (.ix (.var 0) (.int 1)) .nil)))])
    (.cons (.ife (.cmp .Lt (.var 3) (.int 2))
    (.cons (.ret (.bl false))
    .nil)
    .nil)
    (.cons (.ret (.or (.and (.cmp .Eq (.ix (.var 2) (.int 0)) (.int 0)) (.and1 (.cmp .Lt (.ix (.var 2) (.int 1)) (.var 1)))) (.or1 (.and (.cmp .Eq (.ix (.var 2) (.int 0)) (.bin .Sub (.var 3) (.int 1))) (.and1 (.cmp .GtE (.ix (.var 2) (.int 1)) (.bin .Sub (.var 4) (.var 1))))))))
    .nil)))
def N_is_crossed : List Str := ["bike", "width", "gear"]
def B_is_crossed (k_check_gear k_check_width k_crosses : Nat) : Ss := (.cons (.drop (.call k_check_width (.cons (.var 0) (.cons (.var 1) .nil))))
    (.cons (.drop (.call k_check_gear (.cons (.var 0) (.cons (.var 2) .nil))))
    (.cons (.ret (.call k_crosses (.cons (.var 0) (.cons (.var 1) (.cons (.var 2) .nil)))))
    .nil)))
def N_find_straight : List Str := ["bike", "width", "gear"]
def E1_find_straight (k_find_gears k_crosses : Nat) : C := (.lcf (.var 2) (.one 2) (.val (.call k_find_gears (.cons (.var 0) .nil))) (.nt (.call k_crosses (.cons (.var 0) (.cons (.var 1) (.cons (.var 2) .nil))))) [("gear", 2)])
def B_find_straight (k_find_gears k_crosses : Nat) : Ss := (.cons (.ret (E1_find_straight k_find_gears k_crosses))
    .nil)
def N_straight_gears : List Str := ["bike", "width"]
def B_straight_gears (k_check_width k_find_straight : Nat) : Ss := (.cons (.drop (.call k_check_width (.cons (.var 0) (.cons (.var 1) .nil))))
    (.cons (.ret (.call k_find_straight (.cons (.var 0) (.cons (.var 1) .nil))))
    .nil))
def N_find_lost : List Str := ["bike", "width", "kept", "gear", "fraction"]
def E1_find_lost (k_find_ratio k_find_straight : Nat) : C := (.lc (.call k_find_ratio (.cons (.var 0) (.cons (.var 3) .nil))) (.one 3) (.val (.call k_find_straight (.cons (.var 0) (.cons (.var 1) .nil)))) [("gear", 3)])
def E2_find_lost (k_find_ladder : Nat) : C := (.lcf (.var 4) (.one 4) (.val (.call k_find_ladder (.cons (.var 0) .nil))) (.cmp .NotIn (.var 4) (.var 2)) [("fraction", 4)])
def B_find_lost (k_find_ratio k_find_ladder k_find_straight : Nat) : Ss := (.cons (.asg 2 (E1_find_lost k_find_ratio k_find_straight))
    (.cons (.ret (E2_find_lost k_find_ladder))
    .nil))
def N_lost_ratios : List Str := ["bike", "width"]
def B_lost_ratios (k_check_width k_find_lost : Nat) : Ss := (.cons (.drop (.call k_check_width (.cons (.var 0) (.cons (.var 1) .nil))))
    (.cons (.ret (.call k_find_lost (.cons (.var 0) (.cons (.var 1) .nil))))
    .nil))
def N_widest_free : List Str := ["bike", "width"]
def E1_widest_free (k_find_lost : Nat) : C := (.lcf (.var 1) (.one 1) (.rng1 (.bin .Add (.glo "MAX_WIDTH" (.int 8)) (.int 1))) (.cmp .Eq (.call k_find_lost (.cons (.var 0) (.cons (.var 1) .nil))) (.lst .nil)) [("width", 1)])
def B_widest_free (k_check_bike k_find_lost : Nat) : Ss := (.cons (.drop (.call k_check_bike (.cons (.var 0) .nil)))
    (.cons (.ret (.ix (E1_widest_free k_find_lost) (.neg (.int 1))))
    .nil))
def N_check_two : List Str := ["one", "other"]
def B_check_two (k_check_bike : Nat) : Ss := (.cons (.drop (.call k_check_bike (.cons (.var 0) .nil)))
    (.cons (.drop (.call k_check_bike (.cons (.var 1) .nil)))
    .nil))
def N_are_alike : List Str := ["one", "other"]
def B_are_alike (k_find_ladder k_check_two : Nat) : Ss := (.cons (.drop (.call k_check_two (.cons (.var 0) (.cons (.var 1) .nil))))
    (.cons (.ret (.cmp .Eq (.call k_find_ladder (.cons (.var 0) .nil)) (.call k_find_ladder (.cons (.var 1) .nil))))
    .nil))
def N_missing : List Str := ["one", "other", "known", "fraction"]
def E1_missing (k_find_ladder : Nat) : C := (.lcf (.var 3) (.one 3) (.val (.call k_find_ladder (.cons (.var 1) .nil))) (.cmp .NotIn (.var 3) (.var 2)) [("fraction", 3)])
def B_missing (k_find_ladder k_check_two : Nat) : Ss := (.cons (.drop (.call k_check_two (.cons (.var 0) (.cons (.var 1) .nil))))
    (.cons (.asg 2 (.call k_find_ladder (.cons (.var 0) .nil)))
    (.cons (.ret (E1_missing k_find_ladder))
    .nil)))
def N_with_teeth : List Str := ["bike", "number", "teeth"]
def E1_with_teeth : C := (.lc (.bin .Mult (.var 2) (.var 1)) (.one 2) (.val (.ix (.var 0) (.int 1))) [("teeth", 2)])
def E2_with_teeth : C := (.lc (.bin .Mult (.var 2) (.var 1)) (.one 2) (.val (.ix (.var 0) (.int 0))) [("teeth", 2)])
def B_with_teeth : Ss := (.cons (.ret (.tup (.cons (.blt .tuple (.cons E2_with_teeth .nil)) (.cons (.blt .tuple (.cons E1_with_teeth .nil)) .nil))))
    .nil)
def N_multiplied : List Str := ["bike", "number", "found"]
def B_multiplied (k_is_int k_is_bike k_check_bike k_with_teeth : Nat) : Ss := (.cons (.drop (.call k_check_bike (.cons (.var 0) .nil)))
    (.cons (.ife (.nt (.call k_is_int (.cons (.var 1) (.cons (.int 1) (.cons (.glo "MAX_FACTOR" (.int 5)) .nil)))))
    (.cons (.rse "InvalidNumber")
    .nil)
    .nil)
    (.cons (.asg 2 (.call k_with_teeth (.cons (.var 0) (.cons (.var 1) .nil))))
    (.cons (.ife (.nt (.call k_is_bike (.cons (.var 2) .nil)))
    (.cons (.rse "TooLarge")
    .nil)
    .nil)
    (.cons (.ret (.var 2))
    .nil)))))
def N_divided : List Str := ["bike", "number", "teeth"]
def E1_divided : C := (.lc (.bin .FloorDiv (.var 2) (.var 1)) (.one 2) (.val (.ix (.var 0) (.int 1))) [("teeth", 2)])
def E2_divided : C := (.lc (.bin .FloorDiv (.var 2) (.var 1)) (.one 2) (.val (.ix (.var 0) (.int 0))) [("teeth", 2)])
def B_divided : Ss := (.cons (.ret (.tup (.cons (.blt .tuple (.cons E2_divided .nil)) (.cons (.blt .tuple (.cons E1_divided .nil)) .nil))))
    .nil)
def N_smallest : List Str := ["bike", "common", "teeth", "parts", "part"]
def L1_smallest (k_divisor : Nat) : S := (.for_ (.one 2) (.val (.bin .Add (.ix (.var 0) (.int 0)) (.ix (.var 0) (.int 1))))
    (.cons (.asg 1 (.call k_divisor (.cons (.var 2) (.cons (.var 1) .nil))))
    .nil))
def E1_smallest (k_is_bike k_divided : Nat) : C := (.lcf (.var 4) (.one 4) (.rng2 (.int 1) (.bin .Add (.var 1) (.int 1))) (.and (.cmp .Eq (.bin .Mod (.var 1) (.var 4)) (.int 0)) (.and1 (.call k_is_bike (.cons (.call k_divided (.cons (.var 0) (.cons (.var 4) .nil))) .nil)))) [("part", 4)])
def B_smallest (k_is_bike k_check_bike k_divisor k_divided : Nat) : Ss := (.cons (.drop (.call k_check_bike (.cons (.var 0) .nil)))
    (.cons (.asg 1 (.int 0))
    (.cons (L1_smallest k_divisor)
    (.cons (.asg 3 (E1_smallest k_is_bike k_divided))
    (.cons (.ret (.call k_divided (.cons (.var 0) (.cons (.ix (.var 3) (.neg (.int 1))) .nil))))
    .nil)))))
def N_ranges : List Str := ["bike", "known"]
def B_ranges (k_check_bike k_find_ladder : Nat) : Ss := (.cons (.drop (.call k_check_bike (.cons (.var 0) .nil)))
    (.cons (.asg 1 (.call k_find_ladder (.cons (.var 0) .nil)))
    (.cons (.ret (.tup (.cons (.ix (.var 1) (.int 0)) (.cons (.ix (.var 1) (.neg (.int 1))) .nil))))
    .nil)))
def N_spread : List Str := ["bike", "known"]
def B_spread (k_check_bike k_find_ladder k_quotient : Nat) : Ss := (.cons (.drop (.call k_check_bike (.cons (.var 0) .nil)))
    (.cons (.asg 1 (.call k_find_ladder (.cons (.var 0) .nil)))
    (.cons (.ret (.call k_quotient (.cons (.ix (.var 1) (.neg (.int 1))) (.cons (.ix (.var 1) (.int 0)) .nil))))
    .nil)))
def N__law_class : List Str := ["_law_error", "_law_kinds", "_law_names"]
def B__law_class : Ss := (.cons (.own 1 (.lst (.cons .non (.cons .non .nil))))
    (.cons (.ext 1 (.lst (.cons .non (.cons .non .nil))))
    (.cons (.ext 1 (.lst (.cons .non (.cons .non .nil))))
    (.cons (.ext 1 (.lst (.cons .non (.cons .non .nil))))
    (.cons (.ext 1 (.lst (.cons .non (.cons .non .nil))))
    (.cons (.frz 1)
    (.cons (.ife (.or (.cmp .NotEq .non (.int 1)) (.or1 (.nt .non)))
    (.cons (.ret (.str "wrong"))
    .nil)
    .nil)
    (.cons (.own 2 (.lst (.cons (.str "InvalidBike") (.cons (.str "InvalidGear") (.cons (.str "InvalidRatio") (.cons (.str "InvalidPercent") (.cons (.str "InvalidWidth") .nil)))))))
    (.cons (.ext 2 (.lst (.cons (.str "InvalidNumber") (.cons (.str "TooLarge") (.cons (.str "InvalidRings") (.cons (.str "InvalidRatios") (.cons (.str "InvalidCogs") .nil)))))))
    (.cons (.frz 2)
    (.cons (.ret (.ix (.var 2) (.mth (.var 1) "index" (.bl true))))
    .nil)))))))))))
def N__law_result : List Str := ["_law_call", "_law_error"]
def B__law_result : Ss := (.cons .retN
    .nil)
def N_without : List Str := ["teeth", "index"]
def B_without : Ss := (.cons (.ret (.bin .Add (.slc (.var 0) .none (.some (.var 1))) (.slc (.var 0) (.some (.bin .Add (.var 1) (.int 1))) .none)))
    .nil)
def N_needless_cogs : List Str := ["bike", "known", "rings", "cogs", "index"]
def E1_needless_cogs (k_find_ladder k_without : Nat) : C := (.lcf (.var 4) (.one 4) (.rng1 (.blt .len (.cons (.var 3) .nil))) (.cmp .Eq (.call k_find_ladder (.cons (.tup (.cons (.var 2) (.cons (.call k_without (.cons (.var 3) (.cons (.var 4) .nil))) .nil))) .nil)) (.var 1)) [("index", 4)])
def B_needless_cogs (k_check_bike k_find_ladder k_without : Nat) : Ss := (.cons (.drop (.call k_check_bike (.cons (.var 0) .nil)))
    (.cons (.asgT [2, 3] (.var 0))
    (.cons (.asg 1 (.call k_find_ladder (.cons (.var 0) .nil)))
    (.cons (.ife (.cmp .Eq (.blt .len (.cons (.var 3) .nil)) (.int 1))
    (.cons (.ret (.lst .nil))
    .nil)
    .nil)
    (.cons (.ret (E1_needless_cogs k_find_ladder k_without))
    .nil)))))
def N_needless_rings : List Str := ["bike", "known", "rings", "cogs", "index"]
def E1_needless_rings (k_find_ladder k_without : Nat) : C := (.lcf (.var 4) (.one 4) (.rng1 (.blt .len (.cons (.var 2) .nil))) (.cmp .Eq (.call k_find_ladder (.cons (.tup (.cons (.call k_without (.cons (.var 2) (.cons (.var 4) .nil))) (.cons (.var 3) .nil))) .nil)) (.var 1)) [("index", 4)])
def B_needless_rings (k_check_bike k_find_ladder k_without : Nat) : Ss := (.cons (.drop (.call k_check_bike (.cons (.var 0) .nil)))
    (.cons (.asgT [2, 3] (.var 0))
    (.cons (.asg 1 (.call k_find_ladder (.cons (.var 0) .nil)))
    (.cons (.ife (.cmp .Eq (.blt .len (.cons (.var 2) .nil)) (.int 1))
    (.cons (.ret (.lst .nil))
    .nil)
    .nil)
    (.cons (.ret (E1_needless_rings k_find_ladder k_without))
    .nil)))))
def N_check_wanted : List Str := ["value", "one"]
def E1_check_wanted (k_is_ratio : Nat) : C := (.lc (.call k_is_ratio (.cons (.var 1) .nil)) (.one 1) (.val (.var 0)) [("one", 1)])
def B_check_wanted (k_is_ratio : Nat) : Ss := (.cons (.ife (.or (.nt (.isi .list (.var 0))) (.or (.nt (.chn .LtE .LtE (.int 1) (.blt .len (.cons (.var 0) .nil)) (.glo "MAX_WANTED" (.int 6)))) (.or1 (.nt (.blt .all (.cons (E1_check_wanted k_is_ratio) .nil))))))
    (.cons (.rse "InvalidRatios")
    .nil)
    .nil)
    .nil)
def N_first_choice : List Str := ["left", "useful", "most", "rows", "size", "more", "chosen", "still", "teeth", "rest", "row", "one"]
def L1_first_choice : S := (.for_ (.tup [6, 7]) (.val (.var 3))
    (.cons (.ife (.cmp .Eq (.var 7) (.lst .nil))
    (.cons (.ret (.var 6))
    .nil)
    .nil)
    .nil))
def E1_first_choice : C := (.lcf (.var 11) (.one 11) (.val (.var 7)) (.cmp .NotIn (.var 11) (.ix (.var 1) (.var 8))) [("one", 11)])
def L2_first_choice : S := (.for_ (.one 8) (.val (.blt .sorted (.cons (.var 1) .nil)))
    (.cons (.asg 9 E1_first_choice)
    (.cons (.ife (.and (.cmp .NotEq (.var 9) (.var 7)) (.and1 (.or (.cmp .Eq (.var 6) (.tup .nil)) (.or1 (.cmp .Gt (.var 8) (.ix (.var 6) (.neg (.int 1))))))))
    (.cons (.app 5 (.tup (.cons (.bin .Add (.var 6) (.tup (.cons (.var 8) .nil))) (.cons (.var 9) .nil))))
    .nil)
    .nil)
    .nil)))
def L3_first_choice : S := (.for_ (.tup [6, 7]) (.val (.var 3))
    (.cons L2_first_choice
    .nil))
def E2_first_choice (k_is_hopeful : Nat) : C := (.lcf (.var 10) (.one 10) (.val (.var 5)) (.call k_is_hopeful (.cons (.var 10) (.cons (.var 1) (.cons (.bin .Sub (.bin .Sub (.var 2) (.var 4)) (.int 1)) .nil)))) [("row", 10)])
def L4_first_choice (k_is_hopeful : Nat) : S := (.for_ (.one 4) (.rng1 (.bin .Add (.var 2) (.int 1)))
    (.cons L1_first_choice
    (.cons (.own 5 (.lst .nil))
    (.cons L3_first_choice
    (.cons (.frz 5)
    (.cons (.asg 3 (E2_first_choice k_is_hopeful))
    .nil))))))
def B_first_choice (k_is_hopeful : Nat) : Ss := (.cons (.asg 3 (.lst (.cons (.tup (.cons (.tup .nil) (.cons (.var 0) .nil))) .nil)))
    (.cons (L4_first_choice k_is_hopeful)
    (.cons (.ret .non)
    .nil)))
def N_is_hopeful : List Str := ["row", "useful", "left", "later", "chosen", "still", "teeth", "one"]
def E1_is_hopeful : C := (.lcf (.var 6) (.one 6) (.val (.var 1)) (.cmp .Gt (.var 6) (.ix (.var 4) (.neg (.int 1)))) [("teeth", 6)])
def E2_is_hopeful : C := (.lc (.cmp .In (.var 7) (.ix (.var 1) (.var 6))) (.one 6) (.val (.var 3)) [("teeth", 6)])
def E3_is_hopeful : C := (.lc (.blt .any (.cons E2_is_hopeful .nil)) (.one 7) (.val (.var 5)) [("one", 7)])
def B_is_hopeful : Ss := (.cons (.asgT [4, 5] (.var 0))
    (.cons (.asg 3 E1_is_hopeful)
    (.cons (.ret (.or (.cmp .Eq (.blt .len (.cons (.var 5) .nil)) (.int 0)) (.or1 (.and (.cmp .Gt (.var 2) (.int 0)) (.and1 (.blt .all (.cons E3_is_hopeful .nil)))))))
    .nil)))
def N_find_cogs : List Str := ["rings", "wanted", "useful", "teeth", "good", "one", "ring"]
def E1_find_cogs (k_reduced : Nat) : C := (.lc (.call k_reduced (.cons (.var 6) (.cons (.var 3) .nil))) (.one 6) (.val (.var 0)) [("ring", 6)])
def E2_find_cogs (k_reduced : Nat) : C := (.lcf (.var 5) (.one 5) (.val (.sset (.var 1))) (.cmp .In (.var 5) (E1_find_cogs k_reduced)) [("one", 5)])
def L1_find_cogs (k_reduced : Nat) : S := (.for_ (.one 3) (.rng2 (.glo "MIN_COG" (.int 8)) (.bin .Add (.glo "MAX_COG" (.int 50)) (.int 1)))
    (.cons (.asg 4 (E2_find_cogs k_reduced))
    (.cons (.ife (.cmp .NotEq (.var 4) (.lst .nil))
    (.cons (.dput 2 (.var 3) (.var 4))
    .nil)
    .nil)
    .nil)))
def B_find_cogs (k_are_rings k_reduced k_check_wanted k_first_choice : Nat) : Ss := (.cons (.ife (.nt (.call k_are_rings (.cons (.var 0) .nil)))
    (.cons (.rse "InvalidRings")
    .nil)
    .nil)
    (.cons (.drop (.call k_check_wanted (.cons (.var 1) .nil)))
    (.cons (.dnew 2 false)
    (.cons (L1_find_cogs k_reduced)
    (.cons (.frz 2)
    (.cons (.ret (.call k_first_choice (.cons (.sset (.var 1)) (.cons (.var 2) (.cons (.glo "MAX_COGS" (.int 8)) .nil)))))
    .nil))))))
def N_fewest_cogs : List Str := ["rings", "wanted", "found"]
def B_fewest_cogs (k_find_cogs : Nat) : Ss := (.cons (.asg 2 (.call k_find_cogs (.cons (.var 0) (.cons (.var 1) .nil))))
    (.cons (.ret (.ife (.cmp .IsNot (.var 2) .non) (.blt .len (.cons (.var 2) .nil)) .non))
    .nil))
def N_cogs_for : List Str := ["rings", "wanted"]
def B_cogs_for (k_find_cogs : Nat) : Ss := (.cons (.ret (.call k_find_cogs (.cons (.var 0) (.cons (.var 1) .nil))))
    .nil)
def N_rings_for : List Str := ["wanted", "cogs", "useful", "teeth", "good", "one", "cog"]
def E1_rings_for (k_reduced : Nat) : C := (.lc (.call k_reduced (.cons (.var 3) (.cons (.var 6) .nil))) (.one 6) (.val (.var 1)) [("cog", 6)])
def E2_rings_for (k_reduced : Nat) : C := (.lcf (.var 5) (.one 5) (.val (.sset (.var 0))) (.cmp .In (.var 5) (E1_rings_for k_reduced)) [("one", 5)])
def L1_rings_for (k_reduced : Nat) : S := (.for_ (.one 3) (.rng2 (.glo "MIN_RING" (.int 10)) (.bin .Add (.glo "MAX_RING" (.int 60)) (.int 1)))
    (.cons (.asg 4 (E2_rings_for k_reduced))
    (.cons (.ife (.cmp .NotEq (.var 4) (.lst .nil))
    (.cons (.dput 2 (.var 3) (.var 4))
    .nil)
    .nil)
    .nil)))
def B_rings_for (k_are_cogs k_reduced k_check_wanted k_first_choice : Nat) : Ss := (.cons (.drop (.call k_check_wanted (.cons (.var 0) .nil)))
    (.cons (.ife (.nt (.call k_are_cogs (.cons (.var 1) .nil)))
    (.cons (.rse "InvalidCogs")
    .nil)
    .nil)
    (.cons (.dnew 2 false)
    (.cons (L1_rings_for k_reduced)
    (.cons (.frz 2)
    (.cons (.ret (.call k_first_choice (.cons (.sset (.var 0)) (.cons (.var 2) (.cons (.glo "MAX_RINGS" (.int 3)) .nil)))))
    .nil))))))
def N__law_gears : List Str := ["_law_bike_here", "_law_found", "_law_ring", "_law_cog"]
def E1__law_gears : C := (.lc (.tup (.cons (.var 2) (.cons (.var 3) .nil))) (.one 3) (.rng1 (.blt .len (.cons (.ix (.var 0) (.int 1)) .nil))) [("_law_cog", 3)])
def L1__law_gears : S := (.for_ (.one 2) (.rng1 (.blt .len (.cons (.ix (.var 0) (.int 0)) .nil)))
    (.cons (.asg 1 (.bin .Add (.var 1) E1__law_gears))
    .nil))
def B__law_gears : Ss := (.cons (.asg 1 (.lst .nil))
    (.cons L1__law_gears
    (.cons (.ret (.var 1))
    .nil)))
def N__law_badbike : List Str := ["_law_script", "_law_at", "_law_bad"]
def B__law_badbike (k__law_drawn : Nat) : Ss := (.cons (.asg 2 (.lst (.cons .non (.cons (.tup .nil) (.cons (.tup (.cons (.tup (.cons (.int 30) .nil)) .nil)) (.cons (.tup (.cons (.tup .nil) (.cons (.tup (.cons (.int 12) .nil)) .nil))) (.cons (.tup (.cons (.tup (.cons (.int 30) .nil)) (.cons (.tup .nil) .nil))) (.cons (.tup (.cons (.tup (.cons (.int 40) (.cons (.int 30) .nil))) (.cons (.tup (.cons (.int 12) .nil)) .nil))) (.cons (.tup (.cons (.tup (.cons (.int 30) .nil)) (.cons (.tup (.cons (.int 12) (.cons (.int 12) .nil))) .nil))) .nil)))))))))
    (.cons (.asg 2 (.bin .Add (.var 2) (.lst (.cons (.tup (.cons (.tup (.cons (.int 9) .nil)) (.cons (.tup (.cons (.int 12) .nil)) .nil))) .nil))))
    (.cons (.asg 2 (.bin .Add (.var 2) (.lst (.cons (.tup (.cons (.tup (.cons (.int 61) .nil)) (.cons (.tup (.cons (.int 12) .nil)) .nil))) (.cons (.tup (.cons (.tup (.cons (.int 30) .nil)) (.cons (.tup (.cons (.int 7) .nil)) .nil))) (.cons (.tup (.cons (.tup (.cons (.int 30) .nil)) (.cons (.tup (.cons (.int 51) .nil)) .nil))) (.cons (.lst (.cons (.tup (.cons (.int 30) .nil)) (.cons (.tup (.cons (.int 12) .nil)) .nil))) (.cons (.tup (.cons (.tup (.cons (.int 30) (.cons (.str "40") .nil))) (.cons (.tup (.cons (.int 12) .nil)) .nil))) .nil))))))))
    (.cons (.ret (.ix (.bin .Add (.var 2) (.lst (.cons (.tup (.cons (.tup (.cons (.bl true) .nil)) (.cons (.tup (.cons (.int 12) .nil)) .nil))) .nil))) (.call k__law_drawn (.cons (.var 0) (.cons (.var 1) (.cons (.int 14) .nil))))))
    .nil))))
def N__law_badgear : List Str := ["_law_script", "_law_at", "_law_bike_here", "_law_bad"]
def B__law_badgear (k__law_drawn : Nat) : Ss := (.cons (.asg 3 (.lst (.cons .non (.cons (.tup .nil) (.cons (.tup (.cons (.int 0) .nil)) (.cons (.tup (.cons (.blt .len (.cons (.ix (.var 2) (.int 0)) .nil)) (.cons (.int 0) .nil))) (.cons (.tup (.cons (.int 0) (.cons (.blt .len (.cons (.ix (.var 2) (.int 1)) .nil)) .nil))) (.cons (.tup (.cons (.neg (.int 1)) (.cons (.int 0) .nil))) (.cons (.lst (.cons (.int 0) (.cons (.int 0) .nil))) (.cons (.tup (.cons (.bl false) (.cons (.int 0) .nil))) .nil))))))))))
    (.cons (.asg 3 (.bin .Add (.var 3) (.lst (.cons (.tup (.cons (.int 0) (.cons (.str "0") .nil))) .nil))))
    (.cons (.ret (.ix (.var 3) (.call k__law_drawn (.cons (.var 0) (.cons (.var 1) (.cons (.int 9) .nil))))))
    .nil)))
def N_is_near : List Str := ["one", "other", "percent", "left", "right"]
def B_is_near : Ss := (.cons (.par [3, 4] [(false, (.bin .Mult (.ix (.var 0) (.int 0)) (.ix (.var 1) (.int 1)))), (false, (.bin .Mult (.ix (.var 1) (.int 0)) (.ix (.var 0) (.int 1))))])
    (.cons (.ret (.cmp .LtE (.bin .Mult (.blt .max2 (.cons (.var 3) (.cons (.var 4) .nil))) (.glo "MAX_PERCENT" (.int 100))) (.bin .Mult (.blt .min2 (.cons (.var 3) (.cons (.var 4) .nil))) (.bin .Add (.glo "MAX_PERCENT" (.int 100)) (.var 2)))))
    .nil))
def N_find_suiting : List Str := ["bike", "wanted", "percent", "found", "one", "gear"]
def E1_find_suiting (k_find_ratio k_all_gears k_is_near : Nat) : C := (.lcf (.var 5) (.one 5) (.val (.call k_all_gears (.cons (.var 0) .nil))) (.call k_is_near (.cons (.call k_find_ratio (.cons (.var 0) (.cons (.var 5) .nil))) (.cons (.var 4) (.cons (.var 2) .nil)))) [("gear", 5)])
def L1_find_suiting (k_find_ratio k_all_gears k_is_near : Nat) : S := (.for_ (.one 4) (.val (.var 1))
    (.cons (.app 3 (E1_find_suiting k_find_ratio k_all_gears k_is_near))
    .nil))
def B_find_suiting (k_find_ratio k_all_gears k_is_near : Nat) : Ss := (.cons (.own 3 (.lst .nil))
    (.cons (L1_find_suiting k_find_ratio k_all_gears k_is_near)
    (.cons (.frz 3)
    (.cons (.ret (.var 3))
    .nil))))
def N_check_course : List Str := ["bike", "wanted", "percent"]
def B_check_course (k_is_int k_check_bike k_check_wanted : Nat) : Ss := (.cons (.drop (.call k_check_bike (.cons (.var 0) .nil)))
    (.cons (.drop (.call k_check_wanted (.cons (.var 1) .nil)))
    (.cons (.ife (.nt (.call k_is_int (.cons (.var 2) (.cons (.int 0) (.cons (.glo "MAX_PERCENT" (.int 100)) .nil)))))
    (.cons (.rse "InvalidPercent")
    .nil)
    .nil)
    .nil)))
def N_suiting : List Str := ["bike", "wanted", "percent"]
def B_suiting (k_find_suiting k_check_course : Nat) : Ss := (.cons (.drop (.call k_check_course (.cons (.var 0) (.cons (.var 1) (.cons (.var 2) .nil)))))
    (.cons (.ret (.call k_find_suiting (.cons (.var 0) (.cons (.var 1) (.cons (.var 2) .nil)))))
    .nil))
def N_find_plan : List Str := ["bike", "wanted", "percent", "found", "gears", "later", "gear", "rows", "many", "plan"]
def E1_find_plan (k_count_shifts : Nat) : C := (.lc (.tup (.cons (.bin .Add (.var 8) (.ife (.cmp .NotEq (.var 9) (.tup .nil)) (.call k_count_shifts (.cons (.var 6) (.cons (.ix (.var 9) (.int 0)) .nil))) (.int 0))) (.cons (.bin .Add (.tup (.cons (.var 6) .nil)) (.var 9)) .nil))) (.tup [8, 9]) (.val (.var 3)) [("many", 8), ("plan", 9)])
def L1_find_plan (k_count_shifts : Nat) : S := (.for_ (.one 6) (.val (.var 4))
    (.cons (.asg 7 (E1_find_plan k_count_shifts))
    (.cons (.ife (.cmp .NotEq (.var 7) (.lst .nil))
    (.cons (.app 5 (.blt .minL (.cons (.var 7) .nil)))
    .nil)
    .nil)
    .nil)))
def L2_find_plan (k_count_shifts k_find_suiting : Nat) : S := (.for_ (.one 4) (.val (.rev (.call k_find_suiting (.cons (.var 0) (.cons (.var 1) (.cons (.var 2) .nil))))))
    (.cons (.own 5 (.lst .nil))
    (.cons (L1_find_plan k_count_shifts)
    (.cons (.frz 5)
    (.cons (.asg 3 (.var 5))
    .nil)))))
def B_find_plan (k_count_shifts k_find_suiting k_check_course : Nat) : Ss := (.cons (.drop (.call k_check_course (.cons (.var 0) (.cons (.var 1) (.cons (.var 2) .nil)))))
    (.cons (.asg 3 (.lst (.cons (.tup (.cons (.int 0) (.cons (.tup .nil) .nil))) .nil)))
    (.cons (L2_find_plan k_count_shifts k_find_suiting)
    (.cons (.ret (.ife (.cmp .NotEq (.var 3) (.lst .nil)) (.blt .minL (.cons (.var 3) .nil)) .non))
    .nil))))
def N_fewest_for : List Str := ["bike", "wanted", "percent", "found"]
def B_fewest_for (k_find_plan : Nat) : Ss := (.cons (.asg 3 (.call k_find_plan (.cons (.var 0) (.cons (.var 1) (.cons (.var 2) .nil)))))
    (.cons (.ret (.ife (.cmp .IsNot (.var 3) .non) (.ix (.var 3) (.int 0)) .non))
    .nil))
def N_best_plan : List Str := ["bike", "wanted", "percent", "found"]
def B_best_plan (k_find_plan : Nat) : Ss := (.cons (.asg 3 (.call k_find_plan (.cons (.var 0) (.cons (.var 1) (.cons (.var 2) .nil)))))
    (.cons (.ret (.ife (.cmp .IsNot (.var 3) .non) (.blt .list (.cons (.ix (.var 3) (.int 1)) .nil)) .non))
    .nil))
def N_percent_needed : List Str := ["bike", "wanted", "percent", "gears"]
def E1_percent_needed (k_find_suiting : Nat) : C := (.lc (.cmp .NotEq (.var 3) (.lst .nil)) (.one 3) (.val (.call k_find_suiting (.cons (.var 0) (.cons (.var 1) (.cons (.var 2) .nil))))) [("gears", 3)])
def L1_percent_needed (k_find_suiting : Nat) : S := (.for_ (.one 2) (.rng1 (.bin .Add (.glo "MAX_PERCENT" (.int 100)) (.int 1)))
    (.cons (.ife (.blt .all (.cons (E1_percent_needed k_find_suiting) .nil))
    (.cons (.ret (.var 2))
    .nil)
    .nil)
    .nil))
def B_percent_needed (k_check_bike k_check_wanted k_find_suiting : Nat) : Ss := (.cons (.drop (.call k_check_bike (.cons (.var 0) .nil)))
    (.cons (.drop (.call k_check_wanted (.cons (.var 1) .nil)))
    (.cons (L1_percent_needed k_find_suiting)
    (.cons (.ret .non)
    .nil))))
def N__wall : List Str := ["k"]
def L1__wall (fuel : Nat) : S := (.whl fuel (.bl true)
    (.cons .retN
    .nil))
def B__wall (fuel : Nat) : Ss := (.cons (L1__wall fuel)
    .nil)
def N_read_int : List Str := ["text", "sign"]
def E1_read_int : C := (.lc (.cmp .In (.var 1) (.glo "DIGITS" (.str "0123456789"))) (.one 1) (.val (.var 0)) [("sign", 1)])
def B_read_int : Ss := (.cons (.ife (.or (.nt (.chn .LtE .LtE (.int 1) (.blt .len (.cons (.var 0) .nil)) (.glo "MAX_DIGITS" (.int 2)))) (.or (.nt (.blt .all (.cons E1_read_int .nil))) (.or1 (.cmp .Eq (.ix (.var 0) (.int 0)) (.str "0")))))
    (.cons (.ret (.int 0))
    .nil)
    .nil)
    (.cons (.ret (.blt .int (.cons (.var 0) .nil)))
    .nil))
def N_chart : List Str := ["bike", "found", "cog", "ratios", "ring", "above", "below"]
def E1_chart (k_find_ratio : Nat) : C := (.lc (.call k_find_ratio (.cons (.var 0) (.cons (.tup (.cons (.var 4) (.cons (.var 2) .nil))) .nil))) (.one 4) (.rng1 (.blt .len (.cons (.ix (.var 0) (.int 0)) .nil))) [("ring", 4)])
def E2_chart : C := (.lc (.bin .Add (.bin .Add (.blt .str (.cons (.var 5) .nil)) (.glo "COLON" (.str ":"))) (.blt .str (.cons (.var 6) .nil))) (.tup [5, 6]) (.val (.var 3)) [("above", 5), ("below", 6)])
def L1_chart (k_find_ratio : Nat) : S := (.for_ (.one 2) (.rng1 (.blt .len (.cons (.ix (.var 0) (.int 1)) .nil)))
    (.cons (.asg 3 (E1_chart k_find_ratio))
    (.cons (.app 1 (.mth (.glo "SPACE" (.str " ")) "join" E2_chart))
    .nil)))
def B_chart (k_check_bike k_find_ratio : Nat) : Ss := (.cons (.drop (.call k_check_bike (.cons (.var 0) .nil)))
    (.cons (.own 1 (.lst .nil))
    (.cons (L1_chart k_find_ratio)
    (.cons (.frz 1)
    (.cons (.ret (.var 1))
    .nil)))))
def N_read_ratio : List Str := ["text", "parts", "part"]
def E1_read_ratio (k_read_int : Nat) : C := (.lc (.call k_read_int (.cons (.var 2) .nil)) (.one 2) (.val (.mth (.var 0) "split" (.glo "COLON" (.str ":")))) [("part", 2)])
def B_read_ratio (k_divisor k_read_int : Nat) : Ss := (.cons (.asg 1 (E1_read_ratio k_read_int))
    (.cons (.ife (.or (.cmp .NotEq (.blt .len (.cons (.var 1) .nil)) (.int 2)) (.or (.cmp .In (.int 0) (.var 1)) (.or1 (.cmp .NotEq (.call k_divisor (.cons (.ix (.var 1) (.int 0)) (.cons (.ix (.var 1) (.int 1)) .nil))) (.int 1)))))
    (.cons (.rse "ParseError")
    .nil)
    .nil)
    (.cons (.ret (.tup (.cons (.ix (.var 1) (.int 0)) (.cons (.ix (.var 1) (.int 1)) .nil))))
    .nil)))
def N_read_chart : List Str := ["rows", "found", "row", "part"]
def E1_read_chart : C := (.lc (.isi .str (.var 2)) (.one 2) (.val (.var 0)) [("row", 2)])
def E2_read_chart (k_read_ratio : Nat) : C := (.lc (.call k_read_ratio (.cons (.var 3) .nil)) (.one 3) (.val (.mth (.var 2) "split" (.glo "SPACE" (.str " ")))) [("part", 3)])
def E3_read_chart (k_read_ratio : Nat) : C := (.lc (E2_read_chart k_read_ratio) (.one 2) (.val (.var 0)) [("row", 2)])
def E4_read_chart : C := (.lc (.cmp .Eq (.blt .len (.cons (.var 2) .nil)) (.blt .len (.cons (.ix (.var 1) (.int 0)) .nil))) (.one 2) (.val (.var 1)) [("row", 2)])
def B_read_chart (k_read_ratio : Nat) : Ss := (.cons (.ife (.or (.nt (.isi .list (.var 0))) (.or1 (.nt (.blt .all (.cons E1_read_chart .nil)))))
    (.cons (.rse "ParseError")
    .nil)
    .nil)
    (.cons (.asg 1 (E3_read_chart k_read_ratio))
    (.cons (.ife (.nt (.blt .all (.cons E4_read_chart .nil)))
    (.cons (.rse "ParseError")
    .nil)
    .nil)
    (.cons (.ret (.var 1))
    .nil))))
def N_naive_ladder : List Str := ["bike", "found", "rings", "cogs", "ring", "cog", "less", "one", "many", "fraction"]
def E1_naive_ladder (k_all_gears : Nat) : C := (.lcf (.var 7) (.one 7) (.val (.call k_all_gears (.cons (.var 0) .nil))) (.cmp .Lt (.bin .Mult (.ix (.var 2) (.ix (.var 7) (.int 0))) (.ix (.var 3) (.var 5))) (.bin .Mult (.ix (.var 2) (.var 4)) (.ix (.var 3) (.ix (.var 7) (.int 1))))) [("one", 7)])
def L1_naive_ladder (k_reduced k_all_gears : Nat) : S := (.for_ (.tup [4, 5]) (.val (.call k_all_gears (.cons (.var 0) .nil)))
    (.cons (.asg 6 (E1_naive_ladder k_all_gears))
    (.cons (.app 1 (.tup (.cons (.blt .len (.cons (.var 6) .nil)) (.cons (.call k_reduced (.cons (.ix (.var 2) (.var 4)) (.cons (.ix (.var 3) (.var 5)) .nil))) .nil))))
    .nil)))
def E2_naive_ladder : C := (.lc (.var 9) (.tup [8, 9]) (.val (.sset (.var 1))) [("many", 8), ("fraction", 9)])
def B_naive_ladder (k_check_bike k_reduced k_all_gears : Nat) : Ss := (.cons (.drop (.call k_check_bike (.cons (.var 0) .nil)))
    (.cons (.asgT [2, 3] (.var 0))
    (.cons (.own 1 (.lst .nil))
    (.cons (L1_naive_ladder k_reduced k_all_gears)
    (.cons (.frz 1)
    (.cons (.ret E2_naive_ladder)
    .nil))))))
end Cg

set_option maxHeartbeats 1000000
namespace Cg
open PySem PySem.Spec PyProof.Rows L2
/-! ### 40. loops by what is done; equal data -/
theorem for_list_inv {α : Type} (enc : α → PyData) {f : PyData → Ev → Res Fl} (P : List α → Ev → Prop) : ∀ (rest done : List α) (e : Ev), P done e → (∀ (done : List α) x (rest' : List α) e, (∃ m, m ++ rest' = rest ∧ ∃ q, m = q ++ [x]) → P done e → ∃ e', f (enc x) e = .ok (.nx e') ∧ P (done ++ [x]) e') →
    ∃ e', forR f (rest.map enc) e = .ok (.nx e') ∧ P (done ++ rest) e'
  | [], done, e, h, _ => ⟨e, rfl, by simpa using h⟩
  | x :: r, done, e, h, step => by
    obtain ⟨e1, h1, p1⟩ := step done x r e ⟨[x], rfl, [], rfl⟩ h
    obtain ⟨e2, h2, p2⟩ := for_list_inv enc P r (done ++ [x]) e1 p1 fun d y r' e ⟨m, hm, q, hq⟩ hp => step d y r' e ⟨x :: m, by simp [hm], x :: q, by simp [hq]⟩ hp
    refine ⟨e2, ?_, by simpa using p2⟩
    rw [List.map_cons]
    unfold forR
    rw [h1]
    exact h2
/-- a loop over a list whose body always goes on: what holds of the done part -/
theorem for_done {α : Type} (enc : α → PyData) {f : PyData → Ev → Res Fl} (P : List α → Ev → Prop) (xs : List α) (e : Ev) (h0 : P [] e) (step : ∀ (done : List α) (x : α) e, x ∈ xs → P done e → ∃ e', f (enc x) e = .ok (.nx e') ∧ P (done ++ [x]) e') :
    ∃ e', forR f (xs.map enc) e = .ok (.nx e') ∧ P xs e' := by
  have := for_list_inv enc (f := f) P xs [] e h0 fun d x r e ⟨m, hm, q, hq⟩ hp => step d x e (by rw [← hm, hq]; simp) hp
  simpa using this
/-- .. and where one stands in it -/
theorem for_doneL {α : Type} (enc : α → PyData) {f : PyData → Ev → Res Fl} (P : List α → Ev → Prop) (xs : List α) (e : Ev) (h0 : P [] e) (step : ∀ (done : List α) (x : α) (rest : List α) e, xs = done ++ x :: rest → P done e → ∃ e', f (enc x) e = .ok (.nx e') ∧ P (done ++ [x]) e') :
    ∃ e', forR f (xs.map enc) e = .ok (.nx e') ∧ P xs e' := by
  have gen : ∀ (rest done : List α) (e : Ev), xs = done ++ rest → P done e → ∃ e', forR f (rest.map enc) e = .ok (.nx e') ∧ P xs e' := by
    intro rest
    induction rest with
    | nil => intro done e hx h; exact ⟨e, rfl, by rw [hx]; simpa using h⟩
    | cons x r ih =>
      intro done e hx h
      obtain ⟨e1, h1, p1⟩ := step done x r e hx h
      obtain ⟨e2, h2, p2⟩ := ih (done ++ [x]) e1 (by rw [hx]; simp) p1
      refine ⟨e2, ?_, p2⟩
      rw [List.map_cons]
      unfold forR
      rw [h1]
      exact h2
  exact gen xs [] e rfl h0
theorem rangeD_map (n : Nat) : rangeD 0 (n : Int) = (List.range n).map fun (k : Nat) => PyData.int (k : Int) := by
  unfold rangeD
  simp
theorem for_rng {f : PyData → Ev → Res Fl} (P : Nat → Ev → Prop) (n : Nat) (e : Ev) (h0 : P 0 e) (step : ∀ (j : Nat) e, j < n → P j e → ∃ e', f (.int (j : Int)) e = .ok (.nx e') ∧ P (j + 1) e') :
    ∃ e', forR f (rangeD 0 (n : Int)) e = .ok (.nx e') ∧ P n e' := by
  rw [rangeD_map]
  obtain ⟨e', h1, h2⟩ := for_doneL (fun (k : Nat) => PyData.int (k : Int)) (f := f) (fun done e => P done.length e) (List.range n) e h0 fun done x rest e hx hp => by
    have hl := congrArg List.length hx
    rw [List.length_range, List.length_append, List.length_cons] at hl
    have ex : x = done.length := by
      have h1 : (List.range n)[done.length]? = some x := by rw [hx]; simp
      rw [List.getElem?_range (by omega)] at h1
      exact (Option.some.inj h1).symm
    subst ex
    obtain ⟨e', q1, q2⟩ := step done.length e (by omega) hp
    exact ⟨e', q1, by rw [List.length_append, List.length_singleton]; exact q2⟩
  exact ⟨e', h1, by rw [List.length_range] at h2; exact h2⟩
mutual
theorem eqv_self : ∀ d : PyData, d.plain = true → PyData.eqv d d = true
  | .none, _ => rfl
  | .bool b, _ => by simp [PyData.eqv]
  | .int i, _ => by simp [PyData.eqv]
  | .str x, _ => by simp [PyData.eqv]
  | .list xs, h => by
    unfold PyData.eqv
    exact eqvAll_self xs (by simpa [PyData.plain] using h)
  | .tuple xs, h => by
    unfold PyData.eqv
    exact eqvAll_self xs (by simpa [PyData.plain] using h)
  | .dict _, h => by simp [PyData.plain] at h
theorem eqvAll_self : ∀ ds : List PyData, PyData.plainAll ds = true → PyData.eqvAll ds ds = true
  | [], _ => by simp [PyData.eqvAll]
  | d :: ds, h => by
    simp only [PyData.plainAll, Bool.and_eq_true] at h
    unfold PyData.eqvAll
    rw [eqv_self d h.1, eqvAll_self ds h.2]
    rfl
end
theorem eq_at {d e : PyData} (h : okD d = true) (h' : okD e = true) : dCmp .Eq d e = .ok (PyData.eqv d e) := by
  have k : (if okD d = true ∧ okD e = true then Res.ok (PyData.eqv d e) else .no) = .ok (PyData.eqv d e) := if_pos ⟨h, h'⟩
  rw [← k]
  cases d <;> rfl
theorem ne_at {d e : PyData} (h : okD d = true) (h' : okD e = true) : dCmp .NotEq d e = .ok (!PyData.eqv d e) := by
  have k : (if okD d = true ∧ okD e = true then Res.ok (!PyData.eqv d e) else .no) = .ok (!PyData.eqv d e) := if_pos ⟨h, h'⟩
  rw [← k]
  cases d <;> rfl
theorem eq_self {d : PyData} (h : okD d = true) : dCmp .Eq d d = .ok true := by rw [eq_at h h, eqv_self d (okD_ok h).1]
theorem ne_selfD {d : PyData} (h : okD d = true) : dCmp .NotEq d d = .ok false := by rw [ne_at h h, eqv_self d (okD_ok h).1]; rfl
theorem is_none (d : PyData) : dCmp .Is d .none = .ok (isNone d) := by cases d <;> rfl
theorem isnt_none (d : PyData) : dCmp .IsNot d .none = .ok (!isNone d) := by cases d <;> rfl
theorem in_list {d : PyData} {ds : List PyData} (h : okD d = true) (h' : PyData.plainAll ds = true) : dCmp .In d (.list ds) = .ok (ds.any fun y => PyData.eqv y d) := by
  have k : (if okD d = true ∧ PyData.plainAll ds = true then Res.ok (ds.any fun y => PyData.eqv y d) else .no) = .ok (ds.any fun y => PyData.eqv y d) := if_pos ⟨h, h'⟩
  rw [← k]
  cases d <;> rfl
theorem notin_list {d : PyData} {ds : List PyData} (h : okD d = true) (h' : PyData.plainAll ds = true) : dCmp .NotIn d (.list ds) = .ok (!ds.any fun y => PyData.eqv y d) := by
  have k : (if okD d = true ∧ PyData.plainAll ds = true then Res.ok (!ds.any fun y => PyData.eqv y d) else .no) = .ok (!ds.any fun y => PyData.eqv y d) := if_pos ⟨h, h'⟩
  rw [← k]
  cases d <;> rfl
@[simp] theorem listD_2 (x0 x1 : PyData) : listD [x0, x1] = .ok (.list [x0, x1]) := listD_few (by simp)
@[simp] theorem listD_3 (x0 x1 x2 : PyData) : listD [x0, x1, x2] = .ok (.list [x0, x1, x2]) := listD_few (by simp)
@[simp] theorem tupD_3 (x0 x1 x2 : PyData) : tupD [x0, x1, x2] = .ok (.tuple [x0, x1, x2]) := tupD_few (by simp)
@[simp] theorem listD_4 (x0 x1 x2 x3 : PyData) : listD [x0, x1, x2, x3] = .ok (.list [x0, x1, x2, x3]) := listD_few (by simp)
@[simp] theorem tupD_4 (x0 x1 x2 x3 : PyData) : tupD [x0, x1, x2, x3] = .ok (.tuple [x0, x1, x2, x3]) := tupD_few (by simp)
@[simp] theorem listD_5 (x0 x1 x2 x3 x4 : PyData) : listD [x0, x1, x2, x3, x4] = .ok (.list [x0, x1, x2, x3, x4]) := listD_few (by simp)
@[simp] theorem tupD_5 (x0 x1 x2 x3 x4 : PyData) : tupD [x0, x1, x2, x3, x4] = .ok (.tuple [x0, x1, x2, x3, x4]) := tupD_few (by simp)
@[simp] theorem listD_6 (x0 x1 x2 x3 x4 x5 : PyData) : listD [x0, x1, x2, x3, x4, x5] = .ok (.list [x0, x1, x2, x3, x4, x5]) := listD_few (by simp)
@[simp] theorem tupD_6 (x0 x1 x2 x3 x4 x5 : PyData) : tupD [x0, x1, x2, x3, x4, x5] = .ok (.tuple [x0, x1, x2, x3, x4, x5]) := tupD_few (by simp)
@[simp] theorem listD_7 (x0 x1 x2 x3 x4 x5 x6 : PyData) : listD [x0, x1, x2, x3, x4, x5, x6] = .ok (.list [x0, x1, x2, x3, x4, x5, x6]) := listD_few (by simp)
@[simp] theorem tupD_7 (x0 x1 x2 x3 x4 x5 x6 : PyData) : tupD [x0, x1, x2, x3, x4, x5, x6] = .ok (.tuple [x0, x1, x2, x3, x4, x5, x6]) := tupD_few (by simp)
@[simp] theorem listD_8 (x0 x1 x2 x3 x4 x5 x6 x7 : PyData) : listD [x0, x1, x2, x3, x4, x5, x6, x7] = .ok (.list [x0, x1, x2, x3, x4, x5, x6, x7]) := listD_few (by simp)
@[simp] theorem tupD_8 (x0 x1 x2 x3 x4 x5 x6 x7 : PyData) : tupD [x0, x1, x2, x3, x4, x5, x6, x7] = .ok (.tuple [x0, x1, x2, x3, x4, x5, x6, x7]) := tupD_few (by simp)
@[simp] theorem listD_9 (x0 x1 x2 x3 x4 x5 x6 x7 x8 : PyData) : listD [x0, x1, x2, x3, x4, x5, x6, x7, x8] = .ok (.list [x0, x1, x2, x3, x4, x5, x6, x7, x8]) := listD_few (by simp)
@[simp] theorem tupD_9 (x0 x1 x2 x3 x4 x5 x6 x7 x8 : PyData) : tupD [x0, x1, x2, x3, x4, x5, x6, x7, x8] = .ok (.tuple [x0, x1, x2, x3, x4, x5, x6, x7, x8]) := tupD_few (by simp)
@[simp] theorem listD_10 (x0 x1 x2 x3 x4 x5 x6 x7 x8 x9 : PyData) : listD [x0, x1, x2, x3, x4, x5, x6, x7, x8, x9] = .ok (.list [x0, x1, x2, x3, x4, x5, x6, x7, x8, x9]) := listD_few (by simp)
@[simp] theorem tupD_10 (x0 x1 x2 x3 x4 x5 x6 x7 x8 x9 : PyData) : tupD [x0, x1, x2, x3, x4, x5, x6, x7, x8, x9] = .ok (.tuple [x0, x1, x2, x3, x4, x5, x6, x7, x8, x9]) := tupD_few (by simp)
@[simp] theorem tupD_0 : tupD [] = .ok (.tuple []) := tupD_few (by simp)
theorem dIx_nn {xs : List PyData} {i : Int} {d : PyData} (h0 : 0 ≤ i) (h : xs[i.toNat]? = some d) : dIx (.list xs) (.int i) = .ok d := by
  unfold dIx
  simp only
  rw [atI_nn h0, h]
theorem dIx_nnT {xs : List PyData} {i : Int} {d : PyData} (h0 : 0 ≤ i) (h : xs[i.toNat]? = some d) : dIx (.tuple xs) (.int i) = .ok d := by
  unfold dIx
  simp only
  rw [atI_nn h0, h]
theorem dIx_in {xs : List PyData} {i : Int} (h0 : 0 ≤ i) (h1 : i < xs.length) : ∃ d ∈ xs, dIx (.list xs) (.int i) = .ok d := by
  have h2 : i.toNat < xs.length := by omega
  exact ⟨xs[i.toNat], List.getElem_mem h2, dIx_nn h0 (List.getElem?_eq_getElem h2)⟩
theorem cat_l {xs ys : List PyData} (h : xs.length + ys.length ≤ 1000000) : dBin .Add (.list xs) (.list ys) = .ok (.list (xs ++ ys)) := by
  show (if _ then _ else _) = _
  rw [if_pos (Nat.le_trans h (by decide))]
theorem cat_t {xs ys : List PyData} (h : xs.length + ys.length ≤ 1000000) : dBin .Add (.tuple xs) (.tuple ys) = .ok (.tuple (xs ++ ys)) := by
  show (if _ then _ else _) = _
  rw [if_pos (Nat.le_trans h (by decide))]
theorem app_ok {n : Nat} (h : n ≤ 1000000) : n < sizeLine := Nat.lt_of_le_of_lt h (by decide)
theorem rep_ok (d : PyData) (k : Nat) (h : k ≤ 1000) : repD k [d] = .ok (.list (List.replicate k d)) := by
  unfold repD
  have h1 : 1 * k ≤ sizeLine := Nat.le_trans (by omega : 1 * k ≤ 1000) (by decide)
  have h2 : 1 ≤ sizeLine := by decide
  rw [if_pos ⟨h1, h2, by omega⟩]
  congr 2
  induction k with
  | zero => rfl
  | succ n ih => rw [List.replicate_succ, List.replicate_succ, List.flatten_cons, ih (by omega) (Nat.le_trans (by omega : 1 * n ≤ 1000) (by decide))]; rfl
theorem run_ok {Γ : Tb} {n : Nat} {B : Ss} {ds : List PyData} {m : List PyData → Res PyData} {d : PyData} (h : m ds = .no ∨ runB Γ n B ds = m ds) (e : m ds = .ok d) : runB Γ n B ds = .ok d := by
  rcases h with h | h
  · rw [h] at e; cases e
  · rw [h, e]

end Cg

set_option maxHeartbeats 1000000
namespace Cg
open PySem PySem.Spec PyProof.Rows L2
/-! ### 41. values of other forms -/
inductive P__law_gears : List PyData → Res PyData → Prop
  | mk (rs cs : List Int) (h1 : rs.length ≤ 3) (h2 : cs.length ≤ 8) : P__law_gears [bk rs cs] (.ok (.list ((gearsL rs.length cs.length).map gT)))
theorem gearsL_succ (n m : Nat) : gearsL (n + 1) m = gearsL n m ++ (List.range m).map fun (j : Nat) => ((n : Int), (j : Int)) := by
  unfold gearsL
  rw [List.range_succ, List.flatMap_append]
  simp
theorem run__law_gears (Γ : Tb) : ∀ ds r, P__law_gears ds r → runB Γ 4 B__law_gears ds = r := by
  rintro _ _ ⟨rs, cs, h1, h2⟩
  have y1 : dIx (bk rs cs) (.int 0) = .ok (.tuple (rs.map .int)) := ix_t0 _ _
  have y2 : dIx (bk rs cs) (.int 1) = .ok (.tuple (cs.map .int)) := ix_t1 _ _ _
  have s1 : small62 (rs.length : Int) = true := small62_few (by omega) (by omega)
  have s2 : small62 (cs.length : Int) = true := small62_few (by omega) (by omega)
  obtain ⟨_, hL, r, c, rfl⟩ : ∃ e', evS Γ L1__law_gears [some (.v (bk rs cs)), some (.v (.list [])), none, none] = .ok (.nx e') ∧ ∃ r c, e' = [some (.v (bk rs cs)), some (.v (.list ((gearsL rs.length cs.length).map gT))), r, c] := by
    have ei : evI Γ (.rng1 (.blt .len (.cons (.ix (.var 0) (.int 0)) .nil))) [some (.v (bk rs cs)), some (.v (.list [])), none, none] = .ok (rangeD 0 rs.length) := by simp [y1, s1]
    unfold L1__law_gears
    rw [ts_for, ei, bind_ok]
    refine for_rng (fun j e => ∃ r c, e = [some (.v (bk rs cs)), some (.v (.list ((gearsL j cs.length).map gT))), r, c]) _ _ ⟨_, _, rfl⟩ ?_
    rintro j _ hj ⟨r, c, rfl⟩
    have e1 : evE Γ E1__law_gears [some (.v (bk rs cs)), some (.v (.list ((gearsL j cs.length).map gT))), some (.v (.int j)), c] = .ok (.list ((List.range cs.length).map fun (k : Nat) => gT ((j : Int), (k : Int)))) := by
      have := lc_eq (Γ := Γ) (e := [some (.v (bk rs cs)), some (.v (.list ((gearsL j cs.length).map gT))), some (.v (.int j)), c]) (elt := .tup (.cons (.var 2) (.cons (.var 3) .nil))) (tg := .one 3) (it := .rng1 (.blt .len (.cons (.ix (.var 0) (.int 1)) .nil))) (ws := [("_law_cog", 3)]) (xs := rangeD 0 cs.length) (g := fun d => .tuple [.int j, d]) (by simp [y2, s2]) (fun x hx => by simp) (by rw [rangeD_map]; simp; omega)
      rw [rangeD_map, List.map_map] at this
      exact this
    have hl : ((gearsL j cs.length).map gT).length + ((List.range cs.length).map fun (k : Nat) => gT ((j : Int), (k : Int))).length ≤ 1000000 := by
      rw [List.length_map, gearsL_len, List.length_map, List.length_range]
      have := Nat.mul_le_mul (Nat.le_of_lt (Nat.lt_of_lt_of_le hj h1)) h2
      omega
    refine ⟨_, by simp [e1, cat_l hl]; rfl, some (.v (.int j)), c, ?_⟩
    rw [gearsL_succ, List.map_append, List.map_map]
    rfl
  simp [runB, startV, B__law_gears, hL]
/-- the values that are no bicycles -/
def tI (ns : List Int) : PyData := .tuple (ns.map .int)
def badBikes : List PyData := [.none, .tuple [], .tuple [tI [30]], .tuple [tI [], tI [12]], .tuple [tI [30], tI []], .tuple [tI [40, 30], tI [12]], .tuple [tI [30], tI [12, 12]], .tuple [tI [9], tI [12]],
  .tuple [tI [61], tI [12]], .tuple [tI [30], tI [7]], .tuple [tI [30], tI [51]], .list [tI [30], tI [12]], .tuple [.tuple [.int 30, .str "40"], tI [12]], .tuple [.tuple [.bool true], tI [12]]]
theorem badBikes_ok : ∀ d ∈ badBikes, bikeOk d = true ∧ isBikeD d = false ∧ okD d = true := by decide +kernel
inductive P__law_badbike : List PyData → Res PyData → Prop
  | mk (ns : List Int) (a : Int) (d : PyData) (few : ns.length ≤ 63) (h : 0 ≤ a) (hd : badBikes[(drawnF ns a 14).toNat]? = some d) : P__law_badbike [.list (ns.map .int), .int a] (.ok d)
theorem run__law_badbike (Γ : Tb) (k : Nat) (hk : (Γ k).run = m__law_drawn) : ∀ ds r, P__law_badbike ds r → runB Γ 3 (B__law_badbike k) ds = r := by
  rintro _ _ ⟨ns, a, d, few, h, hd⟩
  have c1 := drawn_at (a := a) (m := 14) hk h (by decide) few
  have dr := drawnF_ok (ns := ns) (k := a) (many := 14) (by decide)
  have ix : dIx (.list badBikes) (.int (drawnF ns a 14)) = .ok d := dIx_nn dr.1 hd
  unfold badBikes tI at ix
  simp only [List.map_nil, List.map_cons] at ix
  simp [runB, startV, B__law_badbike, c1, cat_l, ix]
theorem badbike_some (ns : List Int) (a : Int) : ∃ d ∈ badBikes, badBikes[(drawnF ns a 14).toNat]? = some d := by
  have dr := drawnF_ok (ns := ns) (k := a) (many := 14) (by decide)
  have hl : (drawnF ns a 14).toNat < badBikes.length := by have : badBikes.length = 14 := rfl; omega
  exact ⟨_, List.getElem_mem hl, List.getElem?_eq_getElem hl⟩
/-- the values that are no gears -/
def badGears (n m : Int) : List PyData := [.none, .tuple [], .tuple [.int 0], .tuple [.int n, .int 0], .tuple [.int 0, .int m], .tuple [.int (-1), .int 0], .list [.int 0, .int 0], .tuple [.bool false, .int 0], .tuple [.int 0, .str "0"]]
theorem badGears_ok (n m : Nat) : ∀ d ∈ badGears n m, gearOk d = true ∧ hasGearD n m d = false := by
  intro d hd
  simp only [badGears, List.mem_cons, List.not_mem_nil, or_false] at hd
  rcases hd with rfl | rfl | rfl | rfl | rfl | rfl | rfl | rfl | rfl <;> refine ⟨rfl, ?_⟩ <;> simp [hasGearD, isIntD] <;> omega
inductive P__law_badgear : List PyData → Res PyData → Prop
  | mk (ns rs cs : List Int) (a : Int) (d : PyData) (few : ns.length ≤ 63) (h : 0 ≤ a) (hd : (badGears rs.length cs.length)[(drawnF ns a 9).toNat]? = some d) : P__law_badgear [.list (ns.map .int), .int a, bk rs cs] (.ok d)
theorem run__law_badgear (Γ : Tb) (k : Nat) (hk : (Γ k).run = m__law_drawn) : ∀ ds r, P__law_badgear ds r → runB Γ 4 (B__law_badgear k) ds = r := by
  rintro _ _ ⟨ns, rs, cs, a, d, few, h, hd⟩
  have y1 : dIx (bk rs cs) (.int 0) = .ok (.tuple (rs.map .int)) := ix_t0 _ _
  have y2 : dIx (bk rs cs) (.int 1) = .ok (.tuple (cs.map .int)) := ix_t1 _ _ _
  have c1 := drawn_at (a := a) (m := 9) hk h (by decide) few
  have dr := drawnF_ok (ns := ns) (k := a) (many := 9) (by decide)
  have ix : dIx (.list (badGears rs.length cs.length)) (.int (drawnF ns a 9)) = .ok d := dIx_nn dr.1 hd
  unfold badGears at ix
  simp [runB, startV, B__law_badgear, c1, y1, y2, cat_l, ix]
theorem badgear_some (ns : List Int) (a : Int) (n m : Nat) : ∃ d ∈ badGears n m, (badGears n m)[(drawnF ns a 9).toNat]? = some d := by
  have dr := drawnF_ok (ns := ns) (k := a) (many := 9) (by decide)
  have hl : (drawnF ns a 9).toNat < (badGears (n : Int) (m : Int)).length := by have : (badGears (n : Int) (m : Int)).length = 9 := rfl; omega
  exact ⟨_, List.getElem_mem hl, List.getElem?_eq_getElem hl⟩
section
variable {Γ : Tb} {k : Nat}
/-- the checks that raise -/
theorem check_bike_no (hk : (Γ k).run = m_check_bike) {d : PyData} (h1 : bikeOk d = true) (h2 : isBikeD d = false) : (Γ k).run [d] = .exc "InvalidBike" := by
  rw [hk]
  simp [m_check_bike, h1, h2]
theorem check_gear_no (hk : (Γ k).run = m_check_gear) {rs cs : List Int} {d : PyData} (h1 : gearOk d = true) (h2 : hasGearD rs.length cs.length d = false) : (Γ k).run [bk rs cs, d] = .exc "InvalidGear" := by
  rw [hk]
  show (if gearOk d = true then (if hasGearD (rs.map PyData.int).length (cs.map PyData.int).length d = true then Res.ok PyData.none else .exc "InvalidGear") else .no) = _
  rw [List.length_map, List.length_map, h2, if_pos h1]
  rfl
end

end Cg

set_option maxHeartbeats 1000000
namespace Cg
open PySem PySem.Spec PyProof.Rows L2
structure Low (a b x y g : Int) : Prop where
  g0 : 0 < g
  y0 : 0 < y
  ea : a = x * g
  eb : b = y * g
  co : Int.gcd x y = 1
  red : redD a b = .tuple [.int x, .int y]
theorem Low.pos {a b x y g : Int} (l : Low a b x y g) (ha : 0 < a) : 0 < x := by
  apply Classical.byContradiction
  intro hn
  have := Int.mul_le_mul_of_nonneg_right (by omega : x ≤ 0) (Int.le_of_lt l.g0)
  have e := l.ea
  omega
/-- cross products, scaled -/
theorem low_of {a b : Int} (hb : 0 < b) : ∃ x y g, Low a b x y g := by
  obtain ⟨x, y, g, h1, h2, h3, h4, h5, h6⟩ := red_spec (a := a) hb
  exact ⟨x, y, g, h1, h2, h3, h4, h5, h6⟩
theorem cross {a b c d x y u v g h : Int} (l : Low a b x y g) (m : Low c d u v h) : (x * v < u * y ↔ a * d < c * b) ∧ (x * v ≤ u * y ↔ a * d ≤ c * b) ∧ (x * v = u * y ↔ a * d = c * b) := by
  have e1 : a * d = (x * v) * (g * h) := by rw [l.ea, m.eb]; simp only [Int.mul_assoc, Int.mul_comm, Int.mul_left_comm]
  have e2 : c * b = (u * y) * (g * h) := by rw [m.ea, l.eb]; simp only [Int.mul_assoc, Int.mul_comm, Int.mul_left_comm]
  have p : 0 < g * h := Int.mul_pos l.g0 m.g0
  rw [e1, e2]
  exact ⟨(Int.mul_lt_mul_right p).symm, (Int.mul_le_mul_right p).symm, (Int.mul_eq_mul_right_iff (by omega)).symm⟩
theorem eqv_frac (a b c d : Int) : dCmp .Eq (.tuple [.int a, .int b]) (.tuple [.int c, .int d]) = .ok (decide (a = c ∧ b = d)) := by
  have o : ∀ a b : Int, okD (.tuple [.int a, .int b]) = true := fun a b => okD_gT (a, b)
  show (if okD (.tuple [.int a, .int b]) = true ∧ okD (.tuple [.int c, .int d]) = true then Res.ok (PyData.eqv (.tuple [.int a, .int b]) (.tuple [.int c, .int d])) else .no) = _
  rw [if_pos ⟨o a b, o c d⟩]
  have e : PyData.eqv (.tuple [.int a, .int b]) (.tuple [.int c, .int d]) = decide ((a, b) = (c, d)) := eqv_ii (a, b) (c, d)
  rw [e]
  simp
theorem nev_frac (a b c d : Int) : dCmp .NotEq (.tuple [.int a, .int b]) (.tuple [.int c, .int d]) = .ok (!decide (a = c ∧ b = d)) := by
  have o : ∀ a b : Int, okD (.tuple [.int a, .int b]) = true := fun a b => okD_gT (a, b)
  show (if okD (.tuple [.int a, .int b]) = true ∧ okD (.tuple [.int c, .int d]) = true then Res.ok (!PyData.eqv (.tuple [.int a, .int b]) (.tuple [.int c, .int d])) else .no) = _
  rw [if_pos ⟨o a b, o c d⟩]
  have e : PyData.eqv (.tuple [.int a, .int b]) (.tuple [.int c, .int d]) = decide ((a, b) = (c, d)) := eqv_ii (a, b) (c, d)
  rw [e]
  simp
/-- compare gives 0 at equal ratios alone -/
theorem low_small {a b x y g : Int} (l : Low a b x y g) (h0 : 0 ≤ a) (h1 : a < 1000000000) (h2 : b < 1000000000) : 0 ≤ x ∧ x < 1000000000 ∧ y < 1000000000 := by
  have g1 := l.g0
  have y1 := l.y0
  have ea := l.ea
  have eb := l.eb
  have x0 : 0 ≤ x := by
    apply Classical.byContradiction
    intro hn
    have := Int.mul_le_mul_of_nonneg_right (by omega : x ≤ -1) (Int.le_of_lt g1)
    omega
  have := Int.mul_le_mul_of_nonneg_left (by omega : 1 ≤ g) x0
  have := Int.mul_le_mul_of_nonneg_left (by omega : 1 ≤ g) (Int.le_of_lt y1)
  omega
theorem prod_dvd : ∀ (cs : List Int) (u : Int), u ∣ cs.foldl (fun u c => u * c) u ∧ ∀ x ∈ cs, x ∣ cs.foldl (fun u c => u * c) u
  | [], u => ⟨Int.dvd_refl u, fun x h => (nomatch h)⟩
  | c :: cs, u => by
    obtain ⟨h1, h2⟩ := prod_dvd cs (u * c)
    rw [List.foldl_cons]
    refine ⟨Int.dvd_trans (Int.dvd_mul_right u c) h1, fun x hx => ?_⟩
    rcases List.mem_cons.mp hx with rfl | hx
    · exact Int.dvd_trans (Int.dvd_mul_left u x) h1
    · exact h2 x hx
theorem prod_pos : ∀ (cs : List Int) (u : Int), 0 < u → (∀ x ∈ cs, 0 < x) → 0 < cs.foldl (fun u c => u * c) u
  | [], u, h, _ => h
  | c :: cs, u, h, k => by
    rw [List.foldl_cons]
    exact prod_pos cs (u * c) (Int.mul_pos h (k c List.mem_cons_self)) fun x hx => k x (List.mem_cons_of_mem _ hx)
def absI (i : Int) : Int := if i < 0 then -i else i
theorem absI_mul {i g : Int} (hg : 0 < g) : absI (i * g) = absI i * g := by
  unfold absI
  by_cases h : i < 0
  · have : i * g < 0 := Int.mul_neg_of_neg_of_pos h hg
    rw [if_pos h, if_pos this, Int.neg_mul]
  · have : ¬ i * g < 0 := by
      have := Int.mul_nonneg (by omega : 0 ≤ i) (Int.le_of_lt hg)
      omega
    rw [if_neg h, if_neg this]
/-- the scores compare as the law's own measures do -/
theorem best_spec {rs cs : List Int} {w t y : Int} : ∀ {ps : List (Int × Int)}, ps ≠ [] → bestG rs cs w t y ps ∈ ps ∧ ∀ p ∈ ps, ¬ (scoreI rs cs w t y p < scoreI rs cs w t y (bestG rs cs w t y ps) ∨ (scoreI rs cs w t y p = scoreI rs cs w t y (bestG rs cs w t y ps) ∧ (p.1 < (bestG rs cs w t y ps).1 ∨ (p.1 = (bestG rs cs w t y ps).1 ∧ p.2 < (bestG rs cs w t y ps).2))))
  | [], h => absurd rfl h
  | p :: ps, _ => by
    obtain ⟨h1, h2⟩ := minOf_spec (ps.map (scoreK rs cs w t y)) (scoreK rs cs w t y p)
    have m2 : PySem.W.minOf (scoreK rs cs w t y p) (ps.map (scoreK rs cs w t y)) ∈ (p :: ps).map (scoreK rs cs w t y) := h1
    obtain ⟨q, hq, eq⟩ := List.mem_map.mp m2
    have b : bestG rs cs w t y (p :: ps) = q := by
      show (PySem.W.minOf (scoreK rs cs w t y p) (ps.map (scoreK rs cs w t y))).2 = q
      rw [← eq]
      rfl
    rw [b]
    refine ⟨hq, fun z hz => ?_⟩
    have := h2 (scoreK rs cs w t y z) (by
      rw [← List.map_cons]
      exact List.mem_map_of_mem hz)
    rw [← eq, ltK, decide_eq_false_iff_not] at this
    exact this
theorem lt_gears (p q : Int × Int) : dCmp .Lt (gT p) (gT q) = .ok (decide (p.1 < q.1 ∨ (p.1 = q.1 ∧ p.2 < q.2))) := by
  have a : PySem.W.alike (gT p) (gT q) = true := rfl
  show (if okD (gT p) = true ∧ okD (gT q) = true ∧ PySem.W.alike (gT p) (gT q) = true ∧ isNone (gT p) = false then Res.ok (PySem.W.dataLt (gT p) (gT q)) else .no) = _
  rw [if_pos ⟨okD_gT p, okD_gT q, a, rfl⟩]
  have e : PySem.W.dataLt (gT p) (gT q) = PySem.W.DatumOrd.lt p q := PySem.W.DatumOrd.lt_eq p q
  rw [e]
  show Res.ok (if p.1 = q.1 then decide (p.2 < q.2) else decide (p.1 < q.1)) = _
  by_cases h : p.1 = q.1
  · simp [h]
  · simp [h]

end Cg

set_option maxHeartbeats 1000000
namespace Cg
open PySem PySem.Spec PyProof.Rows L2
/-! ### 42. ordered data by keys -/
section
open PySem.W (Datum DatumOrd Tup minOf)
variable {α : Type} [DecidableEq α] [DatumOrd α]
/-- the order is the one of the keys -/
def Keyed (key : α → List Int) : Prop := ∀ x y : α, DatumOrd.lt x y = decide (key x < key y)
theorem minOf_key {key : α → List Int} (hk : Keyed key) : ∀ (xs : List α) (x : α), minOf x xs ∈ x :: xs ∧ ∀ y ∈ x :: xs, key (minOf x xs) ≤ key y
  | [], x => ⟨by simp [minOf], fun y hy => by
    have e : y = x := by simpa using hy
    subst e
    exact List.le_refl _⟩
  | z :: zs, x => by
    have e : minOf x (z :: zs) = minOf (if DatumOrd.lt z x = true then z else x) zs := rfl
    rw [e]
    obtain ⟨h1, h2⟩ := minOf_key hk zs (if DatumOrd.lt z x = true then z else x)
    have h3 := h2 _ List.mem_cons_self
    generalize minOf (if DatumOrd.lt z x = true then z else x) zs = m at *
    refine ⟨?_, fun y hy => ?_⟩
    · rcases List.mem_cons.mp h1 with h | h
      · rw [h]
        split
        · exact List.mem_cons_of_mem _ List.mem_cons_self
        · exact List.mem_cons_self
      · exact List.mem_cons_of_mem _ (List.mem_cons_of_mem _ h)
    · have two : key m ≤ key x ∧ key m ≤ key z := by
        by_cases c : DatumOrd.lt z x = true
        · rw [if_pos c] at h3
          refine ⟨?_, h3⟩
          rw [hk, decide_eq_true_eq] at c
          exact List.le_trans h3 (List.le_of_lt c)
        · rw [if_neg c] at h3
          refine ⟨h3, ?_⟩
          rw [hk, decide_eq_true_eq, List.not_lt] at c
          exact List.le_trans h3 c
      rcases List.mem_cons.mp hy with rfl | hy
      · exact two.1
      · rcases List.mem_cons.mp hy with rfl | hy
        · exact two.2
        · exact h2 y (List.mem_cons_of_mem _ hy)
theorem plainAll_of : ∀ xs : List α, PyData.plainAll (xs.map Datum.toD) = true
  | [] => rfl
  | x :: xs => by
    rw [List.map_cons]
    simp only [PyData.plainAll, Datum.plain, plainAll_of xs, Bool.and_self]
theorem depthAll_of : ∀ xs : List α, PyData.depthAll (xs.map Datum.toD) ≤ Datum.depth α
  | [] => by simp [PyData.depthAll]
  | x :: xs => by
    rw [List.map_cons]
    simp only [PyData.depthAll]
    exact Nat.max_le.mpr ⟨Datum.depth_le x, depthAll_of xs⟩
theorem minable_of (hd : Datum.depth α ≤ 20) (xs : List α) : minable (xs.map Datum.toD) = true := by
  unfold minable
  rw [plainAll_of]
  simp only [Bool.true_and, Bool.and_eq_true, List.all_eq_true, decide_eq_true_eq]
  refine ⟨⟨fun d hd e he => ?_, fun d hd => ?_⟩, Nat.le_trans (depthAll_of xs) (by omega)⟩
  · obtain ⟨p, _, rfl⟩ := List.mem_map.mp hd
    obtain ⟨q, _, rfl⟩ := List.mem_map.mp he
    exact DatumOrd.alike p q
  · obtain ⟨p, _, rfl⟩ := List.mem_map.mp hd
    have := DatumOrd.notNone p
    cases h : Datum.toD p <;> first | rfl | exact (this h).elim
theorem min_key {key : α → List Int} (hk : Keyed key) (hd : Datum.depth α ≤ 20) (x : α) (xs : List α) : ∃ m, dBlt .minL [.list ((x :: xs).map Datum.toD)] = .ok (Datum.toD m) ∧ m ∈ x :: xs ∧ ∀ y ∈ x :: xs, key m ≤ key y := by
  obtain ⟨h1, h2⟩ := minOf_key hk xs x
  refine ⟨_, ?_, h1, h2⟩
  have hm := minable_of hd (x :: xs)
  rw [List.map_cons] at hm
  show (if minable _ = true then Res.ok (PySem.W.minD _ _) else .no) = _
  rw [if_pos hm, PySem.W.minD_map]
/-- .. sorted: of one form -/
theorem sort_key {key : α → List Int} (hk : Keyed key) (hd : Datum.depth α ≤ 20) (form : (∀ a : α, ∃ y ys, Datum.toD a = .tuple (y :: ys)) ∨ ∀ a : α, ∀ ys, Datum.toD a ≠ .tuple ys) (xs : List α) (few : xs.length ≤ 1000000) :
    ∃ ys : List α, dBlt .sorted [.list (xs.map Datum.toD)] = .ok (.list (ys.map Datum.toD)) ∧ ys.Perm xs ∧ ys.Pairwise fun a b => key a ≤ key b := by
  refine ⟨xs.mergeSort fun a b => decide (key a ≤ key b), ?_, List.mergeSort_perm _ _, ?_⟩
  · have hs : sortableD (xs.map Datum.toD) = true := by
      unfold sortableD
      rw [plainAll_of]
      simp only [Bool.true_and, Bool.and_eq_true, Bool.or_eq_true, List.all_eq_true, decide_eq_true_eq]
      refine ⟨⟨fun d hd e he => ?_, fun d hd' => ?_⟩, ?_⟩
      · obtain ⟨p, _, rfl⟩ := List.mem_map.mp hd
        obtain ⟨q, _, rfl⟩ := List.mem_map.mp he
        exact DatumOrd.alike p q
      · obtain ⟨p, _, rfl⟩ := List.mem_map.mp hd'
        exact Nat.le_trans (Datum.depth_le p) (by omega)
      · rcases form with f | f
        · refine .inl fun d hd => ?_
          obtain ⟨p, _, rfl⟩ := List.mem_map.mp hd
          obtain ⟨y, ys, e⟩ := f p
          rw [e]
        · refine .inr fun d hd => ?_
          obtain ⟨p, _, rfl⟩ := List.mem_map.mp hd
          have g := f p
          have n := DatumOrd.notNone p
          cases h : Datum.toD p with
          | none => exact (n h).elim
          | tuple ys => exact (g ys h).elim
          | _ => rfl
    show dSorted _ = _
    unfold dSorted
    rw [if_pos ⟨hs, by rw [List.length_map]; exact Nat.le_trans few (by decide)⟩]
    congr 2
    refine (List.map_mergeSort fun a _ b _ => ?_).symm
    show decide (key a ≤ key b) = !PySem.W.dataLt (Datum.toD b) (Datum.toD a)
    rw [DatumOrd.lt_eq, hk b a, ← decide_not]
    exact decide_eq_decide.mpr List.not_lt.symm
  · refine (List.pairwise_mergeSort (fun a b c h1 h2 => ?_) (fun a b => ?_) xs).imp fun {a b} h => by simpa using h
    · simp only [decide_eq_true_eq] at *
      exact List.le_trans h1 h2
    · simp only [Bool.or_eq_true, decide_eq_true_eq]
      exact List.le_total _ _
end
def kI (i : Int) : List Int := [i]
def kG (p : Int × Int) : List Int := [p.1, p.2]
def kS (x : Int × (Int × Int)) : List Int := x.1 :: kG x.2
def kP : List (Int × Int) → List Int
  | [] => []
  | g :: gs => g.1 :: g.2 :: kP gs
def kC (x : Int × List (Int × Int)) : List Int := x.1 :: kP x.2
def kT (x : Int × PySem.W.Tup (Int × Int)) : List Int := x.1 :: kP x.2.items
theorem keyed_int : Keyed kI := fun x y => by
  show decide (x < y) = _
  simp [kI, List.cons_lt_cons_iff]
theorem keyed_gear : Keyed kG := fun x y => by
  show (if x.1 = y.1 then decide (x.2 < y.2) else decide (x.1 < y.1)) = _
  by_cases h : x.1 = y.1 <;> simp [kG, List.cons_lt_cons_iff, h]
theorem keyed_score : Keyed kS := fun x y => by
  show (if x.1 = y.1 then PySem.W.DatumOrd.lt x.2 y.2 else decide (x.1 < y.1)) = _
  rw [keyed_gear]
  by_cases h : x.1 = y.1 <;> simp [kS, List.cons_lt_cons_iff, h]
theorem keyed_plan : ∀ x y : List (Int × Int), PySem.W.listLt x y = decide (kP x < kP y)
  | [], [] => by simp [PySem.W.listLt]
  | [], y :: ys => by simp [PySem.W.listLt, kP]
  | x :: xs, [] => by simp [PySem.W.listLt, kP]
  | x :: xs, y :: ys => by
    rw [PySem.W.listLt, keyed_plan xs ys, keyed_gear]
    by_cases h : x = y
    · subst h
      simp [kP, List.cons_lt_cons_iff]
    · rw [if_neg h]
      have h2 : ¬ (x.1 = y.1 ∧ x.2 = y.2) := fun hh => h (Prod.ext hh.1 hh.2)
      simp only [kG, kP, List.cons_lt_cons_iff, List.lt_irrefl, decide_eq_decide]
      constructor
      · rintro (h | ⟨h, h' | ⟨_, h'⟩⟩)
        · exact .inl h
        · exact .inr ⟨h, .inl h'⟩
        · simp at h'
      · rintro (h | ⟨h, h' | ⟨h', _⟩⟩)
        · exact .inl h
        · exact .inr ⟨h, .inl h'⟩
        · exact (h2 ⟨h, h'⟩).elim
theorem keyed_cost : Keyed kC := fun x y => by
  show (if x.1 = y.1 then PySem.W.listLt x.2 y.2 else decide (x.1 < y.1)) = _
  rw [keyed_plan]
  by_cases h : x.1 = y.1 <;> simp [kC, List.cons_lt_cons_iff, h]
theorem keyed_costT : Keyed kT := fun x y => by
  show (if x.1 = y.1 then PySem.W.listLt x.2.items y.2.items else decide (x.1 < y.1)) = _
  rw [keyed_plan]
  by_cases h : x.1 = y.1 <;> simp [kT, List.cons_lt_cons_iff, h]
theorem kP_inj : ∀ {x y : List (Int × Int)}, kP x = kP y → x = y
  | [], [], _ => rfl
  | [], y :: ys, h => by simp [kP] at h
  | x :: xs, [], h => by simp [kP] at h
  | x :: xs, y :: ys, h => by
    simp only [kP, List.cons.injEq] at h
    rw [kP_inj h.2.2, Prod.ext h.1 h.2.1]
theorem kC_inj {x y : Int × List (Int × Int)} (h : kC x = kC y) : x = y := by
  simp only [kC, List.cons.injEq] at h
  exact Prod.ext h.1 (kP_inj h.2)
theorem kS_inj {x y : Int × (Int × Int)} (h : kS x = kS y) : x = y := by
  simp only [kS, kG, List.cons.injEq, and_true] at h
  exact Prod.ext h.1 (Prod.ext h.2.1 h.2.2)

end Cg

set_option maxHeartbeats 1000000
namespace Cg
open PySem PySem.Spec PyProof.Rows L2
/-! ### 43. plans -/
def shI (p q : Int × Int) : Int := absI (p.1 - q.1) + absI (p.2 - q.2)
/-- all plans of rows -/
def plans : List (List (Int × Int)) → List (List (Int × Int))
  | [] => [[]]
  | r :: R => r.flatMap fun g => (plans R).map (g :: ·)
def extI (g : Int × Int) : List (Int × Int) → Int
  | [] => 0
  | h :: _ => shI g h
def costI : List (Int × Int) → Int
  | [] => 0
  | g :: p => costI p + extI g p
/-- the least number and the first plan that has it -/
structure IsMin (R : List (List (Int × Int))) (x : Int × List (Int × Int)) : Prop where
  mem : x.2 ∈ plans R
  eq : x.1 = costI x.2
  le : ∀ p ∈ plans R, kC x ≤ kC (costI p, p)
theorem IsMin.uniq {R : List (List (Int × Int))} {x y : Int × List (Int × Int)} (h : IsMin R x) (h' : IsMin R y) : x = y := by
  have e1 := h.le _ h'.mem
  have e2 := h'.le _ h.mem
  have ex : (costI x.2, x.2) = x := Prod.ext h.eq.symm rfl
  have ey : (costI y.2, y.2) = y := Prod.ext h'.eq.symm rfl
  rw [ey] at e1
  rw [ex] at e2
  exact kC_inj (List.le_antisymm e1 e2)
theorem plans_none : ∀ {R : List (List (Int × Int))}, plans R = [] ↔ [] ∈ R
  | [] => by simp [plans]
  | r :: R => by
    unfold plans
    rw [List.flatMap_eq_nil_iff]
    simp only [List.map_eq_nil_iff, plans_none (R := R), List.mem_cons]
    constructor
    · intro h
      cases r with
      | nil => exact .inl rfl
      | cons g gs => exact .inr (h g List.mem_cons_self)
    · rintro (h | h)
      · rw [← h]
        intro x hx
        cases hx
      · exact fun _ _ => h
theorem plans_len : ∀ {R : List (List (Int × Int))} {p : List (Int × Int)}, p ∈ plans R → p.length = R.length
  | [], p, h => by simp [plans] at h; simp [h]
  | r :: R, p, h => by
    unfold plans at h
    simp only [List.mem_flatMap, List.mem_map] at h
    obtain ⟨g, _, q, hq, rfl⟩ := h
    simp [plans_len hq]
theorem mem_plans {r : List (Int × Int)} {R : List (List (Int × Int))} {p : List (Int × Int)} : p ∈ plans (r :: R) ↔ ∃ g ∈ r, ∃ q ∈ plans R, p = g :: q := by
  show p ∈ r.flatMap _ ↔ _
  simp only [List.mem_flatMap, List.mem_map]
  constructor
  · rintro ⟨g, hg, q, hq, rfl⟩; exact ⟨g, hg, q, hq, rfl⟩
  · rintro ⟨g, hg, q, hq, rfl⟩; exact ⟨g, hg, q, hq, rfl⟩
/-- what the later rows leave: a best plan for each first gear -/
structure Best (R : List (List (Int × Int))) (F : List (Int × List (Int × Int))) : Prop where
  mem : ∀ x ∈ F, x.2 ∈ plans R ∧ x.1 = costI x.2
  le : ∀ p ∈ plans R, ∃ x ∈ F, x.2.head? = p.head? ∧ kC x ≤ kC (costI p, p)
theorem best_nil : Best [] [(0, [])] :=
  ⟨fun x hx => by simp at hx; subst hx; exact ⟨by simp [plans], rfl⟩, fun p hp => by
    simp [plans] at hp
    subst hp
    exact ⟨(0, []), List.mem_cons_self, rfl, List.le_refl _⟩⟩
def growI (g : Int × Int) (x : Int × List (Int × Int)) : Int × List (Int × Int) := (x.1 + extI g x.2, g :: x.2)
theorem kC_le {x y : Int × List (Int × Int)} : kC x ≤ kC y ↔ x.1 < y.1 ∨ x.1 = y.1 ∧ kP x.2 ≤ kP y.2 := List.cons_le_cons_iff
theorem kP_cons {g : Int × Int} {p q : List (Int × Int)} : kP (g :: p) ≤ kP (g :: q) ↔ kP p ≤ kP q := by
  simp [kP, List.cons_le_cons_iff]
theorem grow_le {g : Int × Int} {x y : Int × List (Int × Int)} (hh : x.2.head? = y.2.head?) (h : kC x ≤ kC y) : kC (growI g x) ≤ kC (growI g y) := by
  have e : extI g x.2 = extI g y.2 := by
    cases hx : x.2 <;> cases hy : y.2 <;> rw [hx, hy] at hh <;> simp at hh
    · simp only [extI, hh]
  rw [kC_le] at h ⊢
  simp only [growI, kP_cons, e]
  rcases h with h | ⟨h, h'⟩
  · exact .inl (by omega)
  · exact .inr ⟨by omega, h'⟩
/-- one row more -/
theorem best_cons {r : List (Int × Int)} {R : List (List (Int × Int))} {F F' : List (Int × List (Int × Int))} (hb : Best R F)
    (h1 : ∀ y ∈ F', ∃ g ∈ r, ∃ x ∈ F, y = growI g x) (h2 : ∀ g ∈ r, ∀ x ∈ F, ∃ y ∈ F', y.2.head? = some g ∧ kC y ≤ kC (growI g x)) : Best (r :: R) F' := by
  refine ⟨fun y hy => ?_, fun p hp => ?_⟩
  · obtain ⟨g, hg, x, hx, rfl⟩ := h1 y hy
    obtain ⟨m1, m2⟩ := hb.mem x hx
    refine ⟨mem_plans.mpr ⟨g, hg, x.2, m1, rfl⟩, ?_⟩
    show x.1 + extI g x.2 = costI x.2 + extI g x.2
    rw [m2]
  · obtain ⟨g, hg, q, hq, rfl⟩ := mem_plans.mp hp
    obtain ⟨x, hx, e1, e2⟩ := hb.le q hq
    obtain ⟨y, hy, f1, f2⟩ := h2 g hg x hx
    exact ⟨y, hy, f1, List.le_trans f2 (grow_le (y := (costI q, q)) e1 e2)⟩
/-- the least of them -/
theorem best_min {R : List (List (Int × Int))} {F : List (Int × List (Int × Int))} (hb : Best R F) {x : Int × List (Int × Int)} (hx : x ∈ F) (le : ∀ y ∈ F, kC x ≤ kC y) : IsMin R x :=
  ⟨(hb.mem x hx).1, (hb.mem x hx).2, fun p hp => by
    obtain ⟨y, hy, _, h⟩ := hb.le p hp
    exact List.le_trans (le y hy) h⟩
theorem best_none {R : List (List (Int × Int))} {F : List (Int × List (Int × Int))} (hb : Best R F) : F = [] ↔ [] ∈ R := by
  rw [← plans_none]
  constructor
  · intro h
    cases hp : plans R with
    | nil => rfl
    | cons p ps =>
      obtain ⟨x, hx, _⟩ := hb.le p (by rw [hp]; simp)
      rw [h] at hx
      cases hx
  · intro h
    cases hF : F with
    | nil => rfl
    | cons x xs =>
      have := (hb.mem x (by rw [hF]; simp)).1
      rw [h] at this
      cases this

end Cg

set_option maxHeartbeats 1000000
namespace Cg
open PySem PySem.Spec PyProof.Rows L2
/-! ### 44. courses -/
inductive P_count_shifts : List PyData → Res PyData → Prop
  | mk (p q : Int × Int) : P_count_shifts [gT p, gT q] (.ok (.int (shI p q)))
theorem run_count_shifts (Γ : Tb) : ∀ ds r, P_count_shifts ds r → runB Γ 2 B_count_shifts ds = r := by
  rintro _ _ ⟨p, q⟩
  have x1 : ∀ p, dIx (gT p) (.int 0) = .ok (.int p.1) := fun p => ix_t0 _ _
  have x2 : ∀ p, dIx (gT p) (.int 1) = .ok (.int p.2) := fun p => ix_t1 _ _ _
  have a : ∀ i, dBlt .abs [.int i] = .ok (.int (absI i)) := fun i => rfl
  simp [runB, startV, B_count_shifts, x1, x2, a, shI]
def isTupD : PyData → Bool
  | .tuple _ => true
  | _ => false
def isLstD : PyData → Bool
  | .list _ => true
  | _ => false
inductive P_is_ratio : List PyData → Res PyData → Prop
  | ok (a b : Int) (ha : isIntD (.int a) 1 60 = true) (hb : isIntD (.int b) 1 60 = true) : P_is_ratio [.tuple [.int a, .int b]] (.ok (.bool (decide ((Int.gcd a b : Int) = 1))))
  | nt (d : PyData) (h : isTupD d = false) (h' : noDict d = true) : P_is_ratio [d] (.ok (.bool false))
  | len (xs : List PyData) (h : xs.length ≠ 2) (h' : xs.length < 1000) : P_is_ratio [.tuple xs] (.ok (.bool false))
  | part (x y : PyData) (hx : noDict x = true) (hy : noDict y = true) (h : (isIntD x 1 60 && isIntD y 1 60) = false) : P_is_ratio [.tuple [x, y]] (.ok (.bool false))
theorem run_is_ratio (Γ : Tb) (k1 k2 : Nat) (h1 : (Γ k1).run = m_is_int) (h2 : (Γ k2).run = m_divisor) : ∀ ds r, P_is_ratio ds r → runB Γ 2 (B_is_ratio k1 k2) ds = r := by
  have e1 : ∀ x y s, noDict x = true → noDict y = true → evE Γ (E1_is_ratio k1) [some (.v (.tuple [x, y])), s] = .ok (.list [.bool (isIntD x 1 60), .bool (isIntD y 1 60)]) := fun x y s hx hy => by
    simp [E1_is_ratio, mapR, h1, m_is_int, hx, hy]
  have al : ∀ a b : Bool, dBlt .all [.list [.bool a, .bool b]] = .ok (.bool (a && b)) := fun a b => by cases a <;> cases b <;> rfl
  rintro _ _ (⟨a, b, ha, hb⟩ | ⟨d, h, h'⟩ | ⟨xs, h, h'⟩ | ⟨x, y, hx, hy, h⟩)
  · have e := e1 (.int a) (.int b) none rfl rfl
    rw [ha, hb] at e
    have dv : (Γ k2).run [.int a, .int b] = .ok (.int (Int.gcd a b)) := by
      simp only [isIntD, Bool.and_eq_true, decide_eq_true_eq] at ha hb
      rw [h2]
      simp only [m_divisor]
      rw [if_pos ⟨by omega, by omega, by omega⟩]
    simp [runB, startV, B_is_ratio, e, al, dv, dIsi, isTy]
  · cases d <;> first | (cases h; done) | (cases h'; done) | simp [runB, startV, B_is_ratio, dIsi, isTy]
  · have l : dLen (.tuple xs) = .ok (.int xs.length) := by
      rfl
    have h'' : ¬ ((xs.length : Int) = 2) := by omega
    simp [runB, startV, B_is_ratio, dIsi, isTy, l, h'']
  · have e := e1 x y none hx hy
    simp [runB, startV, B_is_ratio, e, al, h, dIsi, isTy]
/-- the wanted ratios -/
def wantB (ws : List (Int × Int)) : Bool := decide (1 ≤ ws.length) && decide (ws.length ≤ 6) && ws.all fun w => decide (1 ≤ w.1) && decide (w.1 ≤ 60) && decide (1 ≤ w.2) && decide (w.2 ≤ 60) && decide ((Int.gcd w.1 w.2 : Int) = 1)
theorem wantB_ok {ws : List (Int × Int)} (h : wantB ws = true) : 1 ≤ ws.length ∧ ws.length ≤ 6 ∧ ∀ w ∈ ws, 1 ≤ w.1 ∧ w.1 ≤ 60 ∧ 1 ≤ w.2 ∧ w.2 ≤ 60 ∧ (Int.gcd w.1 w.2 : Int) = 1 := by
  unfold wantB at h
  simp only [Bool.and_eq_true, decide_eq_true_eq, List.all_eq_true] at h
  exact ⟨h.1.1, h.1.2, fun w hw => ⟨(h.2 w hw).1.1.1.1, (h.2 w hw).1.1.1.2, (h.2 w hw).1.1.2, (h.2 w hw).1.2, (h.2 w hw).2⟩⟩
theorem wantB_of {ws : List (Int × Int)} (h1 : 1 ≤ ws.length) (h2 : ws.length ≤ 6) (h3 : ∀ w ∈ ws, 1 ≤ w.1 ∧ w.1 ≤ 60 ∧ 1 ≤ w.2 ∧ w.2 ≤ 60 ∧ (Int.gcd w.1 w.2 : Int) = 1) : wantB ws = true := by
  unfold wantB
  simp only [Bool.and_eq_true, decide_eq_true_eq, List.all_eq_true]
  exact ⟨⟨h1, h2⟩, fun w hw => ⟨⟨⟨⟨(h3 w hw).1, (h3 w hw).2.1⟩, (h3 w hw).2.2.1⟩, (h3 w hw).2.2.2.1⟩, (h3 w hw).2.2.2.2⟩⟩
inductive BadW : PyData → Prop
  | nl (d : PyData) (h : isLstD d = false) (h' : noDict d = true) : BadW d
  | len (xs : List PyData) (h : xs.length = 0 ∨ 6 < xs.length) (h' : xs.length < 1000) : BadW (.list xs)
  | els (xs : List PyData) (f : PyData → Bool) (h1 : 1 ≤ xs.length) (h2 : xs.length ≤ 6) (h3 : ∀ x ∈ xs, P_is_ratio [x] (.ok (.bool (f x)))) (h4 : xs.all f = false) : BadW (.list xs)
inductive P_check_wanted : List PyData → Res PyData → Prop
  | ok (ws : List (Int × Int)) (h : wantB ws = true) : P_check_wanted [.list (ws.map gT)] (.ok .none)
  | no (d : PyData) (h : BadW d) : P_check_wanted [d] (.exc "InvalidRatios")
theorem allB_of : ∀ bs : List Bool, allB (bs.map .bool) = some bs
  | [] => rfl
  | b :: bs => by
    show (allB (bs.map .bool)).map (b :: ·) = _
    rw [allB_of bs]
    rfl
theorem all_bools (bs : List Bool) : dBlt .all [.list (bs.map .bool)] = .ok (.bool (bs.all id)) := by
  show (match allB (bs.map PyData.bool) with
    | some bs => Res.ok (PyData.bool (bs.all id))
    | none => .no) = _
  rw [allB_of]
theorem len_l {xs : List PyData} (h : xs.length < 1000) : dLen (.list xs) = .ok (.int xs.length) := rfl
theorem run_check_wanted (Γ : Tb) (k1 : Nat) (h1 : At Γ k1 P_is_ratio) : ∀ ds r, P_check_wanted ds r → runB Γ 2 (B_check_wanted k1) ds = r := by
  have E : ∀ (xs : List PyData) (f : PyData → Bool) s, xs.length < 1000 → (∀ x ∈ xs, P_is_ratio [x] (.ok (.bool (f x)))) → evE Γ (E1_check_wanted k1) [some (.v (.list xs)), s] = .ok (.list ((xs.map f).map .bool)) := fun xs f s hl hx => by
    have := lc_eq (Γ := Γ) (e := [some (.v (.list xs)), s]) (elt := .call k1 (.cons (.var 1) .nil)) (tg := .one 1) (it := .val (.var 0)) (ws := [("one", 1)]) (xs := xs) (g := fun d => .bool (f d)) (by simp) (fun x hx' => by simp [h1 _ _ (hx x hx')]) (by omega)
    rw [List.map_map]
    exact this
  rintro _ _ (⟨ws, h⟩ | ⟨d, h⟩)
  · obtain ⟨l1, l2, l3⟩ := wantB_ok h
    have e := E (ws.map gT) (fun _ => true) none (by rw [List.length_map]; omega) (fun x hx => by
      obtain ⟨w, hw, rfl⟩ := List.mem_map.mp hx
      obtain ⟨a1, a2, a3, a4, a5⟩ := l3 w hw
      have := P_is_ratio.ok w.1 w.2 (by simp only [isIntD, Bool.and_eq_true, decide_eq_true_eq]; omega) (by simp only [isIntD, Bool.and_eq_true, decide_eq_true_eq]; omega)
      rw [decide_eq_true a5] at this
      exact this)
    have al := all_bools ((ws.map gT).map fun _ => true)
    have at' : ((ws.map gT).map fun _ => true).all id = true := by simp
    rw [at'] at al
    have l : dLen (.list (ws.map gT)) = .ok (.int ws.length) := by rw [len_l (by rw [List.length_map]; omega), List.length_map]
    have q1 : (1 : Int) ≤ ws.length := by omega
    have q2 : (ws.length : Int) ≤ 6 := by omega
    rw [List.map_map, List.map_map] at al
    rw [List.map_map, List.map_map] at e
    simp only [Function.comp_def] at e al
    simp [runB, startV, B_check_wanted, dIsi, isTy, l, q1, q2, e, al]
  rcases h with ⟨_, h, h'⟩ | ⟨xs, h, h'⟩ | ⟨xs, f, l1, l2, h3, h4⟩
  · cases d <;> first | (cases h; done) | (cases h'; done) | simp [runB, startV, B_check_wanted, dIsi, isTy]
  · have l := len_l h'
    by_cases q : 1 ≤ (xs.length : Int)
    · have q2 : ¬ (xs.length : Int) ≤ 6 := by omega
      simp [runB, startV, B_check_wanted, dIsi, isTy, l, q, q2]
    · simp [runB, startV, B_check_wanted, dIsi, isTy, l, q]
  · have l := len_l (xs := xs) (by omega)
    have q1 : (1 : Int) ≤ xs.length := by omega
    have q2 : (xs.length : Int) ≤ 6 := by omega
    have e := E xs f none (by omega) h3
    have al := all_bools (xs.map f)
    have at' : (xs.map f).all id = false := by rw [List.all_map]; exact h4
    rw [at'] at al
    simp only [List.map_map, Function.comp_def] at e al
    simp [runB, startV, B_check_wanted, dIsi, isTy, l, q1, q2, e, al]

end Cg

set_option maxHeartbeats 1000000
namespace Cg
open PySem PySem.Spec PyProof.Rows L2
/-! ### 45. comprehensions over what is encoded -/
theorem filR_enc {α : Type} {enc : α → PyData} {c : PyData → Res Bool} {f : PyData → Res PyData} {q : α → Bool} {g : α → PyData} : ∀ {xs : List α}, (∀ x ∈ xs, c (enc x) = .ok (q x)) → (∀ x ∈ xs, q x = true → f (enc x) = .ok (g x)) → filR c f (xs.map enc) = .ok ((xs.filter q).map g)
  | [], _, _ => rfl
  | x :: xs, h1, h2 => by
    have ih := filR_enc (xs := xs) (fun y hy => h1 y (List.mem_cons_of_mem _ hy)) (fun y hy => h2 y (List.mem_cons_of_mem _ hy))
    have a := h1 x List.mem_cons_self
    rw [List.map_cons]
    unfold filR
    rw [a, ih]
    cases hq : q x with
    | true => simp [h2 x List.mem_cons_self hq, hq]
    | false => simp [hq]
theorem mapR_enc {α : Type} {enc : α → PyData} {f : PyData → Res PyData} {g : α → PyData} : ∀ {xs : List α}, (∀ x ∈ xs, f (enc x) = .ok (g x)) → mapR f (xs.map enc) = .ok (xs.map g)
  | [], _ => rfl
  | x :: xs, h => by
    have ih := mapR_enc (xs := xs) (fun y hy => h y (List.mem_cons_of_mem _ hy))
    rw [List.map_cons]
    unfold mapR
    rw [h x List.mem_cons_self, ih]
    rfl
theorem lcf_enc {α : Type} (enc : α → PyData) {Γ : Tb} {e : Ev} {elt c : C} {tg : Tg} {it : It'} {ws : List (Str × Nat)} {xs : List α} {q : α → Bool} {g : α → PyData} (hi : evI Γ it e = .ok (xs.map enc)) (hc : ∀ x ∈ xs, ((bindT tg (enc x) (wipeV e (ws.map (·.2)))).bind fun e' => (evE Γ c e').bind asB) = .ok (q x))
    (hm : ∀ x ∈ xs, q x = true → ((bindT tg (enc x) (wipeV e (ws.map (·.2)))).bind fun e' => evE Γ elt e') = .ok (g x)) (hz : xs.length ≤ 1000000) : evE Γ (.lcf elt tg it c ws) e = .ok (.list ((xs.filter q).map g)) := by
  rw [ee_lcf, hi, bind_ok, filR_enc hc hm, lcR_ok, bind_ok]
  exact listD_few (by rw [List.length_map]; exact Nat.le_trans (List.length_filter_le _ _) hz)
theorem lc_enc {α : Type} (enc : α → PyData) {Γ : Tb} {e : Ev} {elt : C} {tg : Tg} {it : It'} {ws : List (Str × Nat)} {xs : List α} {g : α → PyData} (hi : evI Γ it e = .ok (xs.map enc))
    (hm : ∀ x ∈ xs, ((bindT tg (enc x) (wipeV e (ws.map (·.2)))).bind fun e' => evE Γ elt e') = .ok (g x)) (hz : xs.length ≤ 1000000) : evE Γ (.lc elt tg it ws) e = .ok (.list (xs.map g)) := by
  rw [ee_lc, hi, bind_ok, mapR_enc hm, lcR_ok, bind_ok]
  exact listD_few (by rw [List.length_map]; exact hz)
/-- a loop that leaves at the first index that fits -/
theorem for_first {f : PyData → Ev → Res Fl} (P : Ev → Prop) (q : Nat → Bool) (r : Nat → PyData) : ∀ (n i : Nat) (e : Ev), P e → (∀ (j : Nat) e, P e → i ≤ j → j < i + n → if q j = true then f (.int (j : Int)) e = .ok (.rt (r j)) else ∃ e', f (.int (j : Int)) e = .ok (.nx e') ∧ P e') →
    match (List.range' i n).find? q with
    | some j => forR f ((List.range' i n).map fun (k : Nat) => PyData.int (k : Int)) e = .ok (.rt (r j))
    | none => ∃ e', forR f ((List.range' i n).map fun (k : Nat) => PyData.int (k : Int)) e = .ok (.nx e') ∧ P e'
  | 0, i, e, h, _ => ⟨e, rfl, h⟩
  | n + 1, i, e, h, step => by
    have s := step i e h (Nat.le_refl _) (by omega)
    rw [List.range'_succ, List.find?_cons, List.map_cons]
    cases hq : q i with
    | true =>
      rw [if_pos hq] at s
      show forR f _ e = _
      unfold forR
      rw [s]
      rfl
    | false =>
      rw [if_neg (by rw [hq]; decide)] at s
      obtain ⟨e', s1, s2⟩ := s
      have ih := for_first P q r n (i + 1) e' s2 fun j e hp h1 h2 => step j e hp (by omega) (by omega)
      have u : forR f (PyData.int (i : Int) :: (List.range' (i + 1) n).map fun (k : Nat) => PyData.int (k : Int)) e = forR f ((List.range' (i + 1) n).map fun (k : Nat) => PyData.int (k : Int)) e' := by
        conv => lhs; unfold forR
        rw [s1]
        rfl
      rw [u]
      exact ih
theorem rangeD_map' (n : Nat) : rangeD 0 (n : Int) = (List.range' 0 n).map fun (k : Nat) => PyData.int (k : Int) := by
  rw [rangeD_map, List.range_eq_range']

end Cg

set_option maxHeartbeats 1000000
namespace Cg
open PySem PySem.Spec PyProof.Rows L2
/-! ### 46. suiting gears, plans -/
def mxI (i j : Int) : Int := if j > i then j else i
def mnI (i j : Int) : Int := if j < i then j else i
def nearI (a b c d p : Int) : Bool := decide (mxI (a * d) (c * b) * 100 ≤ mnI (a * d) (c * b) * (100 + p))
theorem mxI_mul {i j g : Int} (hg : 0 < g) : mxI (i * g) (j * g) = mxI i j * g := by
  unfold mxI
  have : j * g > i * g ↔ j > i := Int.mul_lt_mul_right hg
  by_cases h : j > i
  · rw [if_pos h, if_pos (this.mpr h)]
  · rw [if_neg h, if_neg (fun h' => h (this.mp h'))]
theorem mnI_mul {i j g : Int} (hg : 0 < g) : mnI (i * g) (j * g) = mnI i j * g := by
  unfold mnI
  have : j * g < i * g ↔ j < i := Int.mul_lt_mul_right hg
  by_cases h : j < i
  · rw [if_pos h, if_pos (this.mpr h)]
  · rw [if_neg h, if_neg (fun h' => h (this.mp h'))]
theorem nearI_mul {x y c d p g : Int} (hg : 0 < g) : nearI (x * g) (y * g) c d p = nearI x y c d p := by
  unfold nearI
  have e1 : x * g * d = x * d * g := Int.mul_right_comm _ _ _
  have e2 : c * (y * g) = c * y * g := by rw [Int.mul_assoc]
  have e3 : ∀ a b : Int, a * g * b = a * b * g := fun a b => Int.mul_right_comm _ _ _
  rw [e1, e2, mxI_mul hg, mnI_mul hg, e3, e3]
  exact decide_eq_decide.mpr (Int.mul_le_mul_right hg)
inductive P_is_near : List PyData → Res PyData → Prop
  | mk (a b c d p : Int) (ha : few32 a = true) (hc : few32 c = true) (hp : 0 ≤ p) (hp' : p ≤ 1000) : P_is_near [.tuple [.int a, .int b], .tuple [.int c, .int d], .int p] (.ok (.bool (nearI a b c d p)))
theorem run_is_near (Γ : Tb) : ∀ ds r, P_is_near ds r → runB Γ 5 B_is_near ds = r := by
  rintro _ _ ⟨a, b, c, d, p, ha, hc, hp, hp'⟩
  have m1 := bn_mulk a d (few32_ok ha)
  have m2 := bn_mulk c b (few32_ok hc)
  have mx : ∀ i j, dBlt .max2 [.int i, .int j] = .ok (.int (mxI i j)) := fun i j => rfl
  have mn : ∀ i j, dBlt .min2 [.int i, .int j] = .ok (.int (mnI i j)) := fun i j => rfl
  have m3 : ∀ i, dBin .Mult (.int i) (.int 100) = .ok (.int (i * 100)) := fun i => bn_mulr i 100 (smallI_few (by decide) (by decide))
  have m4 : ∀ i, dBin .Mult (.int i) (.int (100 + p)) = .ok (.int (i * (100 + p))) := fun i => bn_mulr i (100 + p) (smallI_few (by omega) (by omega))
  simp [runB, startV, B_is_near, m1, m2, mx, mn, m3, m4, nearI]
/-- the gears that suit -/
def nearP (rs cs : List Int) (w : Int × Int) (pc : Int) (g : Int × Int) : Bool := nearI (at' rs g.1) (at' cs g.2) w.1 w.2 pc
def sutG (rs cs : List Int) (pc : Int) (w : Int × Int) : List (Int × Int) := (gearsL rs.length cs.length).filter (nearP rs cs w pc)
def rowsG (rs cs : List Int) (ws : List (Int × Int)) (pc : Int) : List (List (Int × Int)) := ws.map (sutG rs cs pc)
def encR (r : List (Int × Int)) : PyData := .list (r.map gT)
theorem near_ratio {rs cs : List Int} (hb : bikeB rs cs = true) {p : Int × Int} (hp : inG rs cs p) (w : Int × Int) (pc : Int) :
    nearI (at' rs p.1 / Int.gcd (at' rs p.1) (at' cs p.2)) (at' cs p.2 / Int.gcd (at' rs p.1) (at' cs p.2)) w.1 w.2 pc = nearP rs cs w pc p := by
  obtain ⟨b1, b2, b3, b4⟩ := bikeB_ok hb
  obtain ⟨g1, g2, g3, g4⟩ := hp
  have r2 := b4 _ (at_mem g3 g4)
  obtain ⟨x, y, g, l⟩ := low_of (a := at' rs p.1) (b := at' cs p.2) (by omega)
  have e1 := l.red
  simp only [redD, PyData.tuple.injEq, List.cons.injEq, PyData.int.injEq, and_true] at e1
  unfold nearP
  rw [e1.1, e1.2, l.ea, l.eb, nearI_mul l.g0]
inductive P_find_suiting : List PyData → Res PyData → Prop
  | mk (rs cs : List Int) (ws : List (Int × Int)) (pc : Int) (h : bikeB rs cs = true) (hw : ws.length ≤ 6) (hw' : ∀ w ∈ ws, few32 w.1 = true) (hp : 0 ≤ pc) (hp' : pc ≤ 1000) : P_find_suiting [bk rs cs, .list (ws.map gT), .int pc] (.ok (.list ((rowsG rs cs ws pc).map encR)))
theorem run_find_suiting (Γ : Tb) (k1 k2 k3 : Nat) (h1 : (Γ k1).run = m_find_ratio) (h2 : (Γ k2).run = m_all_gears) (h3 : At Γ k3 P_is_near) : ∀ ds r, P_find_suiting ds r → runB Γ 6 (B_find_suiting k1 k2 k3) ds = r := by
  rintro _ _ ⟨rs, cs, ws, pc, h, hw, hw', hp, hp'⟩
  obtain ⟨b1, b2, b3, b4⟩ := bikeB_ok h
  have few := gears_few b1 b2
  obtain ⟨_, w1, a, rfl⟩ : ∃ e', evS Γ (L1_find_suiting k1 k2 k3) [some (.v (bk rs cs)), some (.v (.list (ws.map gT))), some (.v (.int pc)), some (.l ([])), none, none] = .ok (.nx e') ∧ ∃ a, e' = [some (.v (bk rs cs)), some (.v (.list (ws.map gT))), some (.v (.int pc)), some (.l ((rowsG rs cs ws pc).map encR)), a, none] := by
    have ei : evI Γ (.val (.var 1)) [some (.v (bk rs cs)), some (.v (.list (ws.map gT))), some (.v (.int pc)), some (.l ([])), none, none] = .ok (ws.map gT) := by simp
    unfold L1_find_suiting
    rw [ts_for, ei, bind_ok]
    unfold rowsG
    refine for_doneL gT (fun done e => ∃ a, e = [some (.v (bk rs cs)), some (.v (.list (ws.map gT))), some (.v (.int pc)), some (.l ((done.map (sutG rs cs pc)).map encR)), a, none]) _ _ ⟨_, rfl⟩ ?_
    rintro done w rest _ hx ⟨a, rfl⟩
    have hlen : done.length ≤ 6 := by have := congrArg List.length hx; rw [List.length_append, List.length_cons] at this; omega
    have hwm : w ∈ ws := by rw [hx]; simp
    have E : ∀ s, evE Γ (E1_find_suiting k1 k2 k3) [some (.v (bk rs cs)), some (.v (.list (ws.map gT))), some (.v (.int pc)), s, some (.v (gT w)), none] = .ok (encR (sutG rs cs pc w)) := fun s => by
      refine lcf_enc gT (q := nearP rs cs w pc) (g := gT) (by simp [all_gears_at h2 b1 b2]) (fun p hp0 => ?_) (fun p hp0 _ => by simp) (by omega)
      have hin : inG rs cs p := mem_gearsL.mp hp0
      have c1 := ratio_at h1 h hin
      have f1 := red_few h hin
      have c2 := h3 _ _ (.mk _ (at' cs p.2 / Int.gcd (at' rs p.1) (at' cs p.2)) w.1 w.2 pc f1.2.1 (hw' w hwm) hp hp')
      rw [near_ratio h hin] at c2
      have e : PyData.tuple [.int w.1, .int w.2] = gT w := rfl
      rw [e] at c2
      unfold ratioD at c1
      simp [c1, c2]
    have z : done.length < sizeLine := app_ok (by omega)
    refine ⟨_, ?_, some (.v (gT w)), rfl⟩
    simp [E, z]
  simp [runB, startV, B_find_suiting, w1]
inductive P_check_course : List PyData → Res PyData → Prop
  | ok (rs cs : List Int) (ws : List (Int × Int)) (pc : Int) (h : okB rs cs = true) (hw : wantB ws = true) (hp : isIntD (.int pc) 0 100 = true) : P_check_course [bk rs cs, .list (ws.map gT), .int pc] (.ok .none)
  | bike (d w p : PyData) (h1 : bikeOk d = true) (h2 : isBikeD d = false) : P_check_course [d, w, p] (.exc "InvalidBike")
  | want (rs cs : List Int) (w p : PyData) (h : okB rs cs = true) (hw : BadW w) : P_check_course [bk rs cs, w, p] (.exc "InvalidRatios")
  | perc (rs cs : List Int) (ws : List (Int × Int)) (p : PyData) (h : okB rs cs = true) (hw : wantB ws = true) (h1 : noDict p = true) (h2 : isIntD p 0 100 = false) : P_check_course [bk rs cs, .list (ws.map gT), p] (.exc "InvalidPercent")
theorem run_check_course (Γ : Tb) (k1 k2 k3 : Nat) (h1 : (Γ k1).run = m_is_int) (h2 : (Γ k2).run = m_check_bike) (h3 : At Γ k3 P_check_wanted) : ∀ ds r, P_check_course ds r → runB Γ 3 (B_check_course k1 k2 k3) ds = r := by
  rintro _ _ (⟨rs, cs, ws, pc, h, hw, hp⟩ | ⟨d, w, p, a, b⟩ | ⟨rs, cs, w, p, h, hw⟩ | ⟨rs, cs, ws, p, h, hw, a, b⟩)
  · have c := h3 _ _ (.ok ws hw)
    simp [runB, startV, B_check_course, check_bike_at h2 h, c, h1, m_is_int, hp, noDict]
  · simp [runB, startV, B_check_course, check_bike_no h2 a b]
  · have c := h3 _ _ (.no w hw)
    simp [runB, startV, B_check_course, check_bike_at h2 h, c]
  · have c := h3 _ _ (.ok ws hw)
    simp [runB, startV, B_check_course, check_bike_at h2 h, c, h1, m_is_int, a, b]
inductive P_suiting : List PyData → Res PyData → Prop
  | ok (rs cs : List Int) (ws : List (Int × Int)) (pc : Int) (h : okB rs cs = true) (hw : wantB ws = true) (hp : isIntD (.int pc) 0 100 = true) : P_suiting [bk rs cs, .list (ws.map gT), .int pc] (.ok (.list ((rowsG rs cs ws pc).map encR)))
  | no (a b c : PyData) (k : Str) (h : P_check_course [a, b, c] (.exc k)) : P_suiting [a, b, c] (.exc k)
theorem want_few {ws : List (Int × Int)} (h : wantB ws = true) : ws.length ≤ 6 ∧ ∀ w ∈ ws, few32 w.1 = true := by
  obtain ⟨_, l2, l3⟩ := wantB_ok h
  refine ⟨l2, fun w hw => ?_⟩
  obtain ⟨a1, a2, _⟩ := l3 w hw
  unfold few32
  simp only [Bool.and_eq_true, decide_eq_true_eq]
  omega
theorem perc_ok {pc : Int} (hp : isIntD (.int pc) 0 100 = true) : 0 ≤ pc ∧ pc ≤ 100 := by
  simpa only [isIntD, Bool.and_eq_true, decide_eq_true_eq] using hp
theorem run_suiting (Γ : Tb) (k1 k2 : Nat) (h1 : At Γ k1 P_find_suiting) (h2 : At Γ k2 P_check_course) : ∀ ds r, P_suiting ds r → runB Γ 3 (B_suiting k1 k2) ds = r := by
  rintro _ _ (⟨rs, cs, ws, pc, h, hw, hp⟩ | ⟨a, b, c, k, h⟩)
  · have c := h2 _ _ (.ok rs cs ws pc h hw hp)
    have p := perc_ok hp
    have d := h1 _ _ (.mk rs cs ws pc (okB_ok h).1 (want_few hw).1 (want_few hw).2 p.1 (by omega))
    simp [runB, startV, B_suiting, c, d]
  · have c := h2 _ _ h
    simp [runB, startV, B_suiting, c]
/-! plans -/
def encX (x : Int × List (Int × Int)) : PyData := .tuple [.int x.1, .tuple (x.2.map gT)]
theorem min_plan {F : List (Int × List (Int × Int))} (h : F ≠ []) : ∃ m ∈ F, dBlt .minL [.list (F.map encX)] = .ok (encX m) ∧ ∀ y ∈ F, kC m ≤ kC y := by
  cases F with
  | nil => exact (h rfl).elim
  | cons x xs =>
    obtain ⟨m, h1, h2, h3⟩ := min_key keyed_costT (by decide) (x.1, PySem.W.Tup.mk x.2) (xs.map fun y => (y.1, PySem.W.Tup.mk y.2))
    have e : ((x.1, PySem.W.Tup.mk x.2) :: xs.map fun y => (y.1, PySem.W.Tup.mk y.2)) = (x :: xs).map fun y => (y.1, PySem.W.Tup.mk y.2) := rfl
    rw [e] at h1 h2 h3
    obtain ⟨z, hz, rfl⟩ := List.mem_map.mp h2
    refine ⟨z, hz, ?_, fun y hy => h3 _ (List.mem_map.mpr ⟨y, hy, rfl⟩)⟩
    rw [List.map_map] at h1
    exact h1
theorem okD_plan (p : List (Int × Int)) : okD (.tuple (p.map gT)) = true := by
  have h := okD_gears p
  unfold okD at h ⊢
  simpa [PyData.plain, PyData.depth] using h
theorem ne_planNil (p : List (Int × Int)) : dCmp .NotEq (.tuple (p.map gT)) (.tuple []) = .ok (!p.isEmpty) := by
  rw [ne_at (okD_plan p) (show okD (.tuple []) = true from okD_plan [])]
  cases p <;> simp [PyData.eqv, PyData.eqvAll]
theorem okD_enc (F : List (Int × List (Int × Int))) : okD (.list (F.map encX)) = true := by
  have h1 := plainAll_of (α := Int × PySem.W.Tup (Int × Int)) (F.map fun y => (y.1, PySem.W.Tup.mk y.2))
  have h2 := depthAll_of (α := Int × PySem.W.Tup (Int × Int)) (F.map fun y => (y.1, PySem.W.Tup.mk y.2))
  have e : (F.map fun y => (y.1, PySem.W.Tup.mk y.2)).map PySem.W.Datum.toD = F.map encX := by rw [List.map_map]; rfl
  rw [e] at h1 h2
  have e3 : PySem.W.Datum.depth (Int × PySem.W.Tup (Int × Int)) ≤ 10 := by decide
  have h3 := Nat.le_trans h2 e3
  unfold okD
  rw [Bool.and_eq_true]
  refine ⟨by simpa [PyData.plain] using h1, decide_eq_true ?_⟩
  simp [PyData.depth]
  omega
theorem ne_encNil (F : List (Int × List (Int × Int))) : dCmp .NotEq (.list (F.map encX)) (.list []) = .ok (!F.isEmpty) := by
  rw [ne_at (okD_enc F) (show okD (.list []) = true from okD_enc [])]
  cases F <;> simp [PyData.eqv, PyData.eqvAll]
inductive P_find_plan : List PyData → Res PyData → Prop
  | none (rs cs : List Int) (ws : List (Int × Int)) (pc : Int) (h : okB rs cs = true) (hw : wantB ws = true) (hp : isIntD (.int pc) 0 100 = true) (hn : [] ∈ rowsG rs cs ws pc) : P_find_plan [bk rs cs, .list (ws.map gT), .int pc] (.ok .none)
  | some (rs cs : List Int) (ws : List (Int × Int)) (pc : Int) (x : Int × List (Int × Int)) (h : okB rs cs = true) (hw : wantB ws = true) (hp : isIntD (.int pc) 0 100 = true) (hx : IsMin (rowsG rs cs ws pc) x) : P_find_plan [bk rs cs, .list (ws.map gT), .int pc] (.ok (encX x))
  | no (a b c : PyData) (k : Str) (h : P_check_course [a, b, c] (.exc k)) : P_find_plan [a, b, c] (.exc k)
theorem run_find_planF (Γ : Tb) (k1 k2 : Nat) (h1 : At Γ k1 P_count_shifts) (h2 : At Γ k2 P_find_suiting) (rs cs : List Int) (ws : List (Int × Int)) (pc : Int) (h : okB rs cs = true) (hw : wantB ws = true) (hp : isIntD (.int pc) 0 100 = true) :
    ∃ e', evS Γ (L2_find_plan k1 k2) [some (.v (bk rs cs)), some (.v (.list (ws.map gT))), some (.v (.int pc)), some (.v (.list [encX (0, [])])), none, none, none, none, none, none] = .ok (.nx e') ∧ ∃ (F : List (Int × List (Int × Int))) (a4 a5 a6 a7 a8 a9 : Option Sl), e' = [some (.v (bk rs cs)), some (.v (.list (ws.map gT))), some (.v (.int pc)), some (.v (.list (F.map encX))), a4, a5, a6, a7, a8, a9] ∧ Best (rowsG rs cs ws pc) F := by
  have p := perc_ok hp
  have b0 := (okB_ok h).1
  obtain ⟨b1, b2, b3, b4⟩ := bikeB_ok b0
  have few := gears_few b1 b2
  have wl := (want_few hw).1
  have d := h2 _ _ (.mk rs cs ws pc b0 wl (want_few hw).2 p.1 (by omega))
  have lenR : (rowsG rs cs ws pc).length ≤ 6 := by unfold rowsG; rw [List.length_map]; exact wl
  have lenr : ∀ r ∈ rowsG rs cs ws pc, r.length ≤ 24 := fun r hr => by
    obtain ⟨w, _, rfl⟩ := List.mem_map.mp hr
    exact Nat.le_trans (List.length_filter_le _ _) (by omega)
  generalize rowsG rs cs ws pc = R at *
  have ei : evI Γ (.val (.rev (.call k2 (.cons (.var 0) (.cons (.var 1) (.cons (.var 2) .nil)))))) [some (.v (bk rs cs)), some (.v (.list (ws.map gT))), some (.v (.int pc)), some (.v (.list [encX (0, [])])), none, none, none, none, none, none] = .ok (R.reverse.map encR) := by
    have rv : dRev (.list (R.map encR)) = .ok (.list (R.reverse.map encR)) := by
      rw [List.map_reverse]
      rfl
    simp [d, rv]
  unfold L2_find_plan
  rw [ts_for, ei, bind_ok]
  have main := for_doneL encR (f := fun x e => (bindT (.one 4) x e).bind fun e' => evSs Γ (.cons (.own 5 (.lst .nil)) (.cons (L1_find_plan k1) (.cons (.frz 5) (.cons (.asg 3 (.var 5)) .nil)))) e') (fun done e => ∃ (F : List (Int × List (Int × Int))) (a4 a5 a6 a7 a8 a9 : Option Sl), e = [some (.v (bk rs cs)), some (.v (.list (ws.map gT))), some (.v (.int pc)), some (.v (.list (F.map encX))), a4, a5, a6, a7, a8, a9] ∧ Best done.reverse F ∧ F.length ≤ 24) R.reverse
    [some (.v (bk rs cs)), some (.v (.list (ws.map gT))), some (.v (.int pc)), some (.v (.list [encX (0, [])])), none, none, none, none, none, none] ⟨[(0, [])], _, _, _, _, _, _, rfl, best_nil, by decide⟩ ?_
  · obtain ⟨e', w1, F, a4, a5, a6, a7, a8, a9, e, hb, _⟩ := main
    rw [List.reverse_reverse] at hb
    exact ⟨e', w1, F, a4, a5, a6, a7, a8, a9, e, hb⟩
  rintro done r rest _ hx ⟨F, a4, a5, a6, a7, a8, a9, rfl, hb, hF⟩
  have hl : done.length ≤ 6 := by
    have := congrArg List.length hx
    rw [List.length_append, List.length_cons, List.length_reverse] at this
    omega
  have hr : r.length ≤ 24 := lenr r (by rw [← List.mem_reverse, hx]; simp)
  have plen : ∀ x ∈ F, x.2.length ≤ 6 := fun x hx => by
    have := plans_len (hb.mem x hx).1
    rw [List.length_reverse] at this
    omega
  obtain ⟨_, w2, F', a6', a7', a8', a9', rfl, q1, q2, q3⟩ : ∃ e', evS Γ (L1_find_plan k1) [some (.v (bk rs cs)), some (.v (.list (ws.map gT))), some (.v (.int pc)), some (.v (.list (F.map encX))), some (.v (encR r)), some (.l ([])), a6, a7, a8, a9] = .ok (.nx e') ∧ ∃ (F' : List (Int × List (Int × Int))) (a6' a7' a8' a9' : Option Sl), e' = [some (.v (bk rs cs)), some (.v (.list (ws.map gT))), some (.v (.int pc)), some (.v (.list (F.map encX))), some (.v (encR r)), some (.l (F'.map encX)), a6', a7', a8', a9'] ∧
      (∀ y ∈ F', ∃ g ∈ r, ∃ x ∈ F, y = growI g x) ∧ (∀ g ∈ r, ∀ x ∈ F, ∃ y ∈ F', y.2.head? = some g ∧ kC y ≤ kC (growI g x)) ∧ F'.length ≤ r.length := by
    have ei : evI Γ (.val (.var 4)) [some (.v (bk rs cs)), some (.v (.list (ws.map gT))), some (.v (.int pc)), some (.v (.list (F.map encX))), some (.v (encR r)), some (.l ([])), a6, a7, a8, a9] = .ok (r.map gT) := by simp [encR]
    unfold L1_find_plan
    rw [ts_for, ei, bind_ok]
    refine for_doneL gT (fun dn e => ∃ (F' : List (Int × List (Int × Int))) (a6' a7' a8' a9' : Option Sl), e = [some (.v (bk rs cs)), some (.v (.list (ws.map gT))), some (.v (.int pc)), some (.v (.list (F.map encX))), some (.v (encR r)), some (.l (F'.map encX)), a6', a7', a8', a9'] ∧
      (∀ y ∈ F', ∃ g ∈ dn, ∃ x ∈ F, y = growI g x) ∧ (∀ g ∈ dn, ∀ x ∈ F, ∃ y ∈ F', y.2.head? = some g ∧ kC y ≤ kC (growI g x)) ∧ F'.length ≤ dn.length) _ _ ⟨[], _, _, _, _, rfl, by simp, by simp, by simp⟩ ?_
    rintro dn g rst _ hy ⟨F', a6', a7', a8', a9', rfl, q1, q2, q3⟩
    have hdn : dn.length ≤ 24 := by have := congrArg List.length hy; rw [List.length_append, List.length_cons] at this; omega
    have E : evE Γ (E1_find_plan k1) [some (.v (bk rs cs)), some (.v (.list (ws.map gT))), some (.v (.int pc)), some (.v (.list (F.map encX))), some (.v (encR r)), some (.l (F'.map encX)), some (.v (gT g)), a7', a8', a9'] = .ok (.list ((F.map (growI g)).map encX)) := by
      rw [List.map_map]
      refine lc_enc encX (g := fun x => encX (growI g x)) (by simp) (fun x hx => ?_) (by omega)
      obtain ⟨c, pl⟩ := x
      have b : bindT (.tup [8, 9]) (encX (c, pl)) (wipeV [some (.v (bk rs cs)), some (.v (.list (ws.map gT))), some (.v (.int pc)), some (.v (.list (F.map encX))), some (.v (encR r)), some (.l (F'.map encX)), some (.v (gT g)), a7', a8', a9'] (([("many", 8), ("plan", 9)] : List (Str × Nat)).map (·.2))) = .ok [some (.v (bk rs cs)), some (.v (.list (ws.map gT))), some (.v (.int pc)), some (.v (.list (F.map encX))), some (.v (encR r)), some (.l (F'.map encX)), some (.v (gT g)), a7', some (.v (.int c)), some (.v (.tuple (pl.map gT)))] := rfl
      rw [b, bind_ok]
      have ct := cat_t (xs := [gT g]) (ys := pl.map gT) (by have := plen _ hx; simp only [List.length_singleton, List.length_map] at this ⊢; omega)
      have nn := ne_planNil pl
      cases pl with
      | nil =>
        simp at nn ct
        simp [nn, ct, encX, growI, extI]
      | cons g' pl' =>
        have i0 : dIx (.tuple ((g' :: pl').map gT)) (.int 0) = .ok (gT g') := ix_t0 _ _
        have cs' := h1 _ _ (.mk g g')
        simp only [List.map_cons] at nn ct i0
        simp [nn, ct, i0, cs', encX, growI, extI]
    by_cases hF0 : F = []
    · subst hF0
      have nn := ne_encNil []
      refine ⟨[some (.v (bk rs cs)), some (.v (.list (ws.map gT))), some (.v (.int pc)), some (.v (.list [])), some (.v (encR r)), some (.l (F'.map encX)), some (.v (gT g)), some (.v (.list [])), a8', a9'], ?_, F', _, _, _, _, rfl, fun y hy => ?_, fun g' _ x hx => (by cases hx), ?_⟩
      · simp only [List.map_nil] at E nn
        simp [E, nn]
      · obtain ⟨_, _, x, hx, _⟩ := q1 y hy
        cases hx
      · rw [List.length_append]; omega
    · have hG : F.map (growI g) ≠ [] := by simpa using hF0
      obtain ⟨m, hm, mn, ml⟩ := min_plan hG
      have nn := ne_encNil (F.map (growI g))
      have ne : (F.map (growI g)).isEmpty = false := by
        cases hh : F.map (growI g) with
        | nil => exact (hG hh).elim
        | cons _ _ => rfl
      rw [ne] at nn
      have z : F'.length < sizeLine := app_ok (by omega)
      generalize hGe : F.map (growI g) = G at *
      refine ⟨[some (.v (bk rs cs)), some (.v (.list (ws.map gT))), some (.v (.int pc)), some (.v (.list (F.map encX))), some (.v (encR r)), some (.l ((F' ++ [m]).map encX)), some (.v (gT g)), some (.v (.list (G.map encX))), a8', a9'], ?_, F' ++ [m], _, _, _, _, rfl, fun y hy => ?_, fun g' hg' x hx => ?_, ?_⟩
      · simp [E, nn, mn, z]
      · rcases List.mem_append.mp hy with hy | hy
        · obtain ⟨g', hg', h'⟩ := q1 y hy
          exact ⟨g', by simp [hg'], h'⟩
        · obtain rfl : y = m := by simpa using hy
          rw [← hGe] at hm
          obtain ⟨x, hx, rfl⟩ := List.mem_map.mp hm
          exact ⟨g, by simp, x, hx, rfl⟩
      · rcases List.mem_append.mp hg' with hg' | hg'
        · obtain ⟨y, hy, h'⟩ := q2 g' hg' x hx
          exact ⟨y, by simp [hy], h'⟩
        · obtain rfl : g' = g := by simpa using hg'
          refine ⟨m, by simp, ?_, ml _ (by rw [← hGe]; exact List.mem_map.mpr ⟨x, hx, rfl⟩)⟩
          rw [← hGe] at hm
          obtain ⟨x, hx, rfl⟩ := List.mem_map.mp hm
          rfl
      · simp; omega
  refine ⟨[some (.v (bk rs cs)), some (.v (.list (ws.map gT))), some (.v (.int pc)), some (.v (.list (F'.map encX))), some (.v (encR r)), some (.v (.list (F'.map encX))), a6', a7', a8', a9'], ?_, F', _, _, _, _, _, _, rfl, ?_, by omega⟩
  · simp [w2]
  · rw [List.reverse_append]
    exact best_cons hb q1 q2
theorem run_find_plan (Γ : Tb) (k1 k2 k3 : Nat) (h1 : At Γ k1 P_count_shifts) (h2 : At Γ k2 P_find_suiting) (h3 : At Γ k3 P_check_course) : ∀ ds r, P_find_plan ds r → runB Γ 10 (B_find_plan k1 k2 k3) ds = r := by
  have i0 : PyData.tuple [.int 0, .tuple []] = encX (0, []) := rfl
  rintro _ _ (⟨rs, cs, ws, pc, h, hw, hp, hn⟩ | ⟨rs, cs, ws, pc, x, h, hw, hp, hx⟩ | ⟨a, b, c, k, h⟩)
  · have c := h3 _ _ (.ok rs cs ws pc h hw hp)
    obtain ⟨_, w1, F, a4, a5, a6, a7, a8, a9, rfl, hb⟩ := run_find_planF Γ k1 k2 h1 h2 rs cs ws pc h hw hp
    have e := (best_none hb).mpr hn
    subst e
    have nn := ne_encNil []
    simp only [List.map_nil] at w1 nn
    simp [runB, startV, B_find_plan, c, i0, w1, nn]
  · have c := h3 _ _ (.ok rs cs ws pc h hw hp)
    obtain ⟨_, w1, F, a4, a5, a6, a7, a8, a9, rfl, hb⟩ := run_find_planF Γ k1 k2 h1 h2 rs cs ws pc h hw hp
    have hF : F ≠ [] := fun e => by
      have := (best_none hb).mp e
      rw [← plans_none] at this
      have := hx.mem
      simp [*] at this
    obtain ⟨m, hm, mn, ml⟩ := min_plan hF
    have e : m = x := (best_min hb hm ml).uniq hx
    subst e
    have nn := ne_encNil F
    have ne : F.isEmpty = false := by
      cases hh : F with
      | nil => exact (hF hh).elim
      | cons _ _ => rfl
    rw [ne] at nn
    simp [runB, startV, B_find_plan, c, i0, w1, nn, mn]
  · have c := h3 _ _ h
    simp [runB, startV, B_find_plan, c]

end Cg

set_option maxHeartbeats 1000000
namespace Cg
open PySem PySem.Spec PyProof.Rows L2
/-! ### 47. the course's functions -/
inductive P_fewest_for : List PyData → Res PyData → Prop
  | none (rs cs : List Int) (ws : List (Int × Int)) (pc : Int) (h : okB rs cs = true) (hw : wantB ws = true) (hp : isIntD (.int pc) 0 100 = true) (hn : [] ∈ rowsG rs cs ws pc) : P_fewest_for [bk rs cs, .list (ws.map gT), .int pc] (.ok .none)
  | some (rs cs : List Int) (ws : List (Int × Int)) (pc : Int) (x : Int × List (Int × Int)) (h : okB rs cs = true) (hw : wantB ws = true) (hp : isIntD (.int pc) 0 100 = true) (hx : IsMin (rowsG rs cs ws pc) x) : P_fewest_for [bk rs cs, .list (ws.map gT), .int pc] (.ok (.int x.1))
  | no (a b c : PyData) (k : Str) (h : P_check_course [a, b, c] (.exc k)) : P_fewest_for [a, b, c] (.exc k)
inductive P_best_plan : List PyData → Res PyData → Prop
  | none (rs cs : List Int) (ws : List (Int × Int)) (pc : Int) (h : okB rs cs = true) (hw : wantB ws = true) (hp : isIntD (.int pc) 0 100 = true) (hn : [] ∈ rowsG rs cs ws pc) : P_best_plan [bk rs cs, .list (ws.map gT), .int pc] (.ok .none)
  | some (rs cs : List Int) (ws : List (Int × Int)) (pc : Int) (x : Int × List (Int × Int)) (h : okB rs cs = true) (hw : wantB ws = true) (hp : isIntD (.int pc) 0 100 = true) (hx : IsMin (rowsG rs cs ws pc) x) : P_best_plan [bk rs cs, .list (ws.map gT), .int pc] (.ok (.list (x.2.map gT)))
  | no (a b c : PyData) (k : Str) (h : P_check_course [a, b, c] (.exc k)) : P_best_plan [a, b, c] (.exc k)
theorem run_fewest_for (Γ : Tb) (k1 : Nat) (h1 : At Γ k1 P_find_plan) : ∀ ds r, P_fewest_for ds r → runB Γ 4 (B_fewest_for k1) ds = r := by
  rintro _ _ (⟨rs, cs, ws, pc, h, hw, hp, hn⟩ | ⟨rs, cs, ws, pc, x, h, hw, hp, hx⟩ | ⟨a, b, c, k, h⟩)
  · have c := h1 _ _ (.none rs cs ws pc h hw hp hn)
    simp [runB, startV, B_fewest_for, c, isnt_none, isNone]
  · have c := h1 _ _ (.some rs cs ws pc x h hw hp hx)
    have i0 : dIx (encX x) (.int 0) = .ok (.int x.1) := ix_t0 _ _
    have n : isNone (encX x) = false := rfl
    simp [runB, startV, B_fewest_for, c, isnt_none, n, i0]
  · have c := h1 _ _ (.no a b c k h)
    simp [runB, startV, B_fewest_for, c]
theorem run_best_plan (Γ : Tb) (k1 : Nat) (h1 : At Γ k1 P_find_plan) : ∀ ds r, P_best_plan ds r → runB Γ 4 (B_best_plan k1) ds = r := by
  rintro _ _ (⟨rs, cs, ws, pc, h, hw, hp, hn⟩ | ⟨rs, cs, ws, pc, x, h, hw, hp, hx⟩ | ⟨a, b, c, k, h⟩)
  · have c := h1 _ _ (.none rs cs ws pc h hw hp hn)
    simp [runB, startV, B_best_plan, c, isnt_none, isNone]
  · have c := h1 _ _ (.some rs cs ws pc x h hw hp hx)
    have i0 : dIx (encX x) (.int 1) = .ok (.tuple (x.2.map gT)) := ix_t1 _ _ _
    have n : isNone (encX x) = false := rfl
    have l : dBlt .list [.tuple (x.2.map gT)] = .ok (.list (x.2.map gT)) := rfl
    simp [runB, startV, B_best_plan, c, isnt_none, n, i0, l]
  · have c := h1 _ _ (.no a b c k h)
    simp [runB, startV, B_best_plan, c]
/-- whether each wanted ratio has a gear -/
def fullG (rs cs : List Int) (ws : List (Int × Int)) (pc : Int) : Bool := (rowsG rs cs ws pc).all fun r => !r.isEmpty
def needF (rs cs : List Int) (ws : List (Int × Int)) : Option Nat := (List.range' 0 101).find? fun j => fullG rs cs ws j
def needD (rs cs : List Int) (ws : List (Int × Int)) : PyData := match needF rs cs ws with
  | some j => .int j
  | none => .none
theorem full_iff {rs cs : List Int} {ws : List (Int × Int)} {pc : Int} : fullG rs cs ws pc = true ↔ [] ∉ rowsG rs cs ws pc := by
  unfold fullG
  rw [List.all_eq_true]
  constructor
  · intro h hn
    have := h [] hn
    simp at this
  · intro h r hr
    cases r with
    | nil => exact (h hr).elim
    | cons _ _ => rfl
inductive P_percent_needed : List PyData → Res PyData → Prop
  | ok (rs cs : List Int) (ws : List (Int × Int)) (h : okB rs cs = true) (hw : wantB ws = true) : P_percent_needed [bk rs cs, .list (ws.map gT)] (.ok (needD rs cs ws))
  | bike (d w : PyData) (h1 : bikeOk d = true) (h2 : isBikeD d = false) : P_percent_needed [d, w] (.exc "InvalidBike")
  | want (rs cs : List Int) (w : PyData) (h : okB rs cs = true) (hw : BadW w) : P_percent_needed [bk rs cs, w] (.exc "InvalidRatios")
theorem okD_row (r : List (Int × Int)) : okD (encR r) = true := okD_gears r
theorem ne_rowNil (r : List (Int × Int)) : dCmp .NotEq (encR r) (.list []) = .ok (!r.isEmpty) := by
  rw [ne_at (okD_row r) (show okD (.list []) = true from okD_gears [])]
  unfold encR
  cases r <;> simp [PyData.eqv, PyData.eqvAll]
theorem run_percent_needed (Γ : Tb) (k1 k2 k3 : Nat) (h1 : (Γ k1).run = m_check_bike) (h2 : At Γ k2 P_check_wanted) (h3 : At Γ k3 P_find_suiting) : ∀ ds r, P_percent_needed ds r → runB Γ 4 (B_percent_needed k1 k2 k3) ds = r := by
  rintro _ _ (⟨rs, cs, ws, h, hw⟩ | ⟨d, w, a, b⟩ | ⟨rs, cs, w, h, hw⟩)
  · have c := h2 _ _ (.ok ws hw)
    have ei : evI Γ (.rng1 (.bin .Add (.glo "MAX_PERCENT" (.int 100)) (.int 1))) [some (.v (bk rs cs)), some (.v (.list (ws.map gT))), none, none] = .ok (rangeD 0 (101 : Nat)) := by
      have s := small62_few (n := 101) (by decide) (by decide)
      simp [s]
    have key := for_first (f := fun x e => (bindT (.one 2) x e).bind fun e' => evSs Γ (.cons (.ife (.blt .all (.cons (E1_percent_needed k3) .nil)) (.cons (.ret (.var 2)) .nil) .nil) .nil) e') (fun e => ∃ a, e = [some (.v (bk rs cs)), some (.v (.list (ws.map gT))), a, none]) (fun j => fullG rs cs ws j) (fun j => .int (j : Int)) 101 0 [some (.v (bk rs cs)), some (.v (.list (ws.map gT))), none, none] ⟨_, rfl⟩ (by
      rintro j _ ⟨a, rfl⟩ hj1 hj2
      have d := h3 _ _ (.mk rs cs ws (j : Int) (okB_ok h).1 (want_few hw).1 (want_few hw).2 (by omega) (by omega))
      have lenR : (rowsG rs cs ws j).length ≤ 6 := by unfold rowsG; rw [List.length_map]; exact (want_few hw).1
      have E : evE Γ (E1_percent_needed k3) [some (.v (bk rs cs)), some (.v (.list (ws.map gT))), some (.v (.int (j : Int))), none] = .ok (.list (((rowsG rs cs ws j).map fun r => !r.isEmpty).map .bool)) := by
        rw [List.map_map]
        refine lc_enc encR (g := fun r => .bool (!r.isEmpty)) (by simp [d]) (fun r hr => by simp [ne_rowNil r]) (by omega)
      have al := all_bools ((rowsG rs cs ws j).map fun r => !r.isEmpty)
      have ae : ((rowsG rs cs ws j).map fun r => !r.isEmpty).all id = fullG rs cs ws j := by rw [List.all_map]; rfl
      rw [ae] at al
      generalize ((rowsG rs cs ws j).map fun r => !r.isEmpty).map PyData.bool = L at *
      cases q : fullG rs cs ws j with
      | true =>
        rw [q] at al
        simp [E, al]
      | false =>
        rw [q] at al
        exact ⟨_, by simp [E, al]; rfl, _, rfl⟩)
    rw [← rangeD_map'] at key
    have w0 : evS Γ (L1_percent_needed k3) [some (.v (bk rs cs)), some (.v (.list (ws.map gT))), none, none] = forR (fun x e => (bindT (.one 2) x e).bind fun e' => evSs Γ (.cons (.ife (.blt .all (.cons (E1_percent_needed k3) .nil)) (.cons (.ret (.var 2)) .nil) .nil) .nil) e') (rangeD 0 (101 : Nat)) [some (.v (bk rs cs)), some (.v (.list (ws.map gT))), none, none] := by
      unfold L1_percent_needed
      rw [ts_for, ei, bind_ok]
    unfold needD needF
    cases hq : (List.range' 0 101).find? (fun j => fullG rs cs ws (j : Nat)) with
    | some j =>
      rw [hq] at key
      simp only at key
      rw [key] at w0
      simp [runB, startV, B_percent_needed, check_bike_at h1 h, c, w0]
    | none =>
      rw [hq] at key
      simp only at key
      obtain ⟨_, k1, a, rfl⟩ := key
      rw [k1] at w0
      simp [runB, startV, B_percent_needed, check_bike_at h1 h, c, w0]
  · simp [runB, startV, B_percent_needed, check_bike_no h1 a b]
  · have c := h2 _ _ (.no w hw)
    simp [runB, startV, B_percent_needed, check_bike_at h1 h, c]

end Cg

set_option maxHeartbeats 1000000
namespace Cg
open PySem PySem.Spec PyProof.Rows L2
/-! ### 48. the law's wanted ratios -/
def N__law_wanted : List Str := ["_law_script", "_law_at", "_law_bike_here", "_law_found", "_law_k", "_law_above", "_law_below"]
def L1__law_wanted (k__law_drawn k__law_least : Nat) : S := (.for_ (.one 4) (.rng1 (.bin .Add (.int 1) (.call k__law_drawn (.cons (.var 0) (.cons (.var 1) (.cons (.int 4) .nil))))))
    (.cons (.par [5, 6] [(false, (.bin .Add (.int 1) (.call k__law_drawn (.cons (.var 0) (.cons (.bin .Add (.bin .Add (.var 1) (.int 1)) (.bin .Mult (.int 4) (.var 4))) (.cons (.int 60) .nil)))))), (false, (.bin .Add (.int 1) (.call k__law_drawn (.cons (.var 0) (.cons (.bin .Add (.bin .Add (.var 1) (.int 2)) (.bin .Mult (.int 4) (.var 4))) (.cons (.int 40) .nil))))))])
    (.cons (.ife (.cmp .Gt (.call k__law_drawn (.cons (.var 0) (.cons (.bin .Add (.bin .Add (.var 1) (.int 3)) (.bin .Mult (.int 4) (.var 4))) (.cons (.int 4) .nil)))) (.int 0))
    (.cons (.asg 5 (.ix (.ix (.var 2) (.int 0)) (.call k__law_drawn (.cons (.var 0) (.cons (.bin .Add (.bin .Add (.var 1) (.int 1)) (.bin .Mult (.int 4) (.var 4))) (.cons (.blt .len (.cons (.ix (.var 2) (.int 0)) .nil)) .nil))))))
    (.cons (.asg 6 (.ix (.ix (.var 2) (.int 1)) (.call k__law_drawn (.cons (.var 0) (.cons (.bin .Add (.bin .Add (.var 1) (.int 2)) (.bin .Mult (.int 4) (.var 4))) (.cons (.blt .len (.cons (.ix (.var 2) (.int 1)) .nil)) .nil))))))
    .nil))
    .nil)
    (.cons (.app 3 (.call k__law_least (.cons (.var 5) (.cons (.var 6) .nil))))
    .nil))))
def B__law_wanted (k__law_drawn k__law_least : Nat) : Ss := (.cons (.own 3 (.lst .nil))
    (.cons (L1__law_wanted k__law_drawn k__law_least)
    (.cons (.frz 3)
    (.cons (.ret (.var 3))
    .nil))))
def wantP (ns : List Int) (a : Int) (rs cs : List Int) (j : Int) : Int × Int :=
  if 0 < drawnF ns (a + 3 + 4 * j) 4 then (at' rs (drawnF ns (a + 1 + 4 * j) rs.length), at' cs (drawnF ns (a + 2 + 4 * j) cs.length))
  else (1 + drawnF ns (a + 1 + 4 * j) 60, 1 + drawnF ns (a + 2 + 4 * j) 40)
def redP (p : Int × Int) : Int × Int := (p.1 / Int.gcd p.1 p.2, p.2 / Int.gcd p.1 p.2)
def wantF (ns : List Int) (a : Int) (rs cs : List Int) : List (Int × Int) := (List.range (1 + drawnF ns a 4).toNat).map fun (j : Nat) => redP (wantP ns a rs cs (j : Int))
theorem redP_gT (a b : Int) : redD a b = gT (redP (a, b)) := rfl
theorem wantP_ok {ns : List Int} {a : Int} {rs cs : List Int} (d : Drawn rs cs) (j : Int) : 1 ≤ (wantP ns a rs cs j).1 ∧ (wantP ns a rs cs j).1 ≤ 60 ∧ 1 ≤ (wantP ns a rs cs j).2 ∧ (wantP ns a rs cs j).2 ≤ 60 := by
  unfold wantP
  split
  · have r1 := d.r1
    have c1 := d.c1
    have b1 := drawnF_ok (ns := ns) (k := a + 1 + 4 * j) (many := rs.length) (by omega)
    have b2 := drawnF_ok (ns := ns) (k := a + 2 + 4 * j) (many := cs.length) (by omega)
    have r := d.r3 _ (at_mem b1.1 b1.2)
    have c := d.c3 _ (at_mem b2.1 b2.2)
    simp only
    omega
  · have b1 := drawnF_ok (ns := ns) (k := a + 1 + 4 * j) (many := 60) (by decide)
    have b2 := drawnF_ok (ns := ns) (k := a + 2 + 4 * j) (many := 40) (by decide)
    simp only
    omega
theorem redP_ok {p : Int × Int} (h1 : 1 ≤ p.1) (h2 : p.1 ≤ 60) (h3 : 1 ≤ p.2) (h4 : p.2 ≤ 60) : 1 ≤ (redP p).1 ∧ (redP p).1 ≤ 60 ∧ 1 ≤ (redP p).2 ∧ (redP p).2 ≤ 60 ∧ (Int.gcd (redP p).1 (redP p).2 : Int) = 1 := by
  obtain ⟨x, y, g, l⟩ := low_of (a := p.1) (b := p.2) (by omega)
  have e := l.red
  simp only [redD, PyData.tuple.injEq, List.cons.injEq, PyData.int.injEq, and_true] at e
  have e' : redP p = (x, y) := Prod.ext e.1 e.2
  have hx := l.pos (by omega)
  have hy := l.y0
  have hg := l.g0
  have q1 : x ≤ x * g := by have := Int.mul_le_mul_of_nonneg_left (by omega : 1 ≤ g) (by omega : 0 ≤ x); omega
  have q2 : y ≤ y * g := by have := Int.mul_le_mul_of_nonneg_left (by omega : 1 ≤ g) (by omega : 0 ≤ y); omega
  have ea := l.ea
  have eb := l.eb
  rw [e']
  have co := l.co
  simp only
  refine ⟨by omega, by omega, by omega, by omega, by rw [co]; rfl⟩
theorem wantF_len (ns : List Int) (a : Int) (rs cs : List Int) : 1 ≤ (wantF ns a rs cs).length ∧ (wantF ns a rs cs).length ≤ 4 := by
  have b := drawnF_ok (ns := ns) (k := a) (many := 4) (by decide)
  unfold wantF
  rw [List.length_map, List.length_range]
  omega
theorem wantF_all {ns : List Int} {a : Int} {rs cs : List Int} (d : Drawn rs cs) : ∀ w ∈ wantF ns a rs cs, 1 ≤ w.1 ∧ w.1 ≤ 60 ∧ 1 ≤ w.2 ∧ w.2 ≤ 60 ∧ (Int.gcd w.1 w.2 : Int) = 1 := fun w hw => by
  obtain ⟨j, _, rfl⟩ := List.mem_map.mp hw
  obtain ⟨a1, a2, a3, a4⟩ := wantP_ok (ns := ns) (a := a) d (j : Int)
  exact redP_ok a1 a2 a3 a4
inductive P__law_wanted : List PyData → Res PyData → Prop
  | mk (ns rs cs : List Int) (a : Int) (few : ns.length ≤ 63) (ha : 0 ≤ a) (d : Drawn rs cs) : P__law_wanted [.list (ns.map .int), .int a, bk rs cs] (.ok (.list ((wantF ns a rs cs).map gT)))
theorem run__law_wanted (Γ : Tb) (k1 k2 : Nat) (h1 : (Γ k1).run = m__law_drawn) (h2 : (Γ k2).run = m__law_least) : ∀ ds r, P__law_wanted ds r → runB Γ 7 (B__law_wanted k1 k2) ds = r := by
  rintro _ _ ⟨ns, rs, cs, a, few, ha, d⟩
  have dr : ∀ (a m : Int), 0 ≤ a → 0 < m → (Γ k1).run [.list (ns.map .int), .int a, .int m] = .ok (.int (drawnF ns a m)) := fun a m ha hm => drawn_at h1 ha hm few
  have e0 := dr a 4 ha (by decide)
  have b0 := drawnF_ok (ns := ns) (k := a) (many := 4) (by decide)
  have y1 : dIx (bk rs cs) (.int 0) = .ok (.tuple (rs.map .int)) := ix_t0 _ _
  have y2 : dIx (bk rs cs) (.int 1) = .ok (.tuple (cs.map .int)) := ix_t1 _ _ _
  have r1 := d.r1
  have c1 := d.c1
  obtain ⟨_, w1, s4, s5, s6, rfl⟩ : ∃ e', evS Γ (L1__law_wanted k1 k2) [some (.v (.list (ns.map .int))), some (.v (.int a)), some (.v (bk rs cs)), some (.l ([])), none, none, none] = .ok (.nx e') ∧ ∃ s4 s5 s6, e' = [some (.v (.list (ns.map .int))), some (.v (.int a)), some (.v (bk rs cs)), some (.l ((wantF ns a rs cs).map gT)), s4, s5, s6] := by
    have ei : evI Γ (.rng1 (.bin .Add (.int 1) (.call k1 (.cons (.var 0) (.cons (.var 1) (.cons (.int 4) .nil)))))) [some (.v (.list (ns.map .int))), some (.v (.int a)), some (.v (bk rs cs)), some (.l ([])), none, none, none] = .ok (rangeD 0 ((1 + drawnF ns a 4).toNat : Nat)) := by
      have s := small62_few (n := 1 + drawnF ns a 4) (by omega) (by omega)
      have e : (((1 + drawnF ns a 4).toNat : Nat) : Int) = 1 + drawnF ns a 4 := by omega
      rw [e]
      simp [e0, s]
    unfold L1__law_wanted
    rw [ts_for, ei, bind_ok]
    unfold wantF
    refine for_rng (fun j e => ∃ s4 s5 s6, e = [some (.v (.list (ns.map .int))), some (.v (.int a)), some (.v (bk rs cs)), some (.l (((List.range j).map fun (j : Nat) => redP (wantP ns a rs cs (j : Int))).map gT)), s4, s5, s6]) _ _ ⟨_, _, _, rfl⟩ ?_
    rintro j _ hj ⟨s4, s5, s6, rfl⟩
    have m := bn_mulk 4 (j : Int) (smallI_few (by decide) (by decide))
    have p1 := dr (a + 1 + 4 * j) 60 (by omega) (by decide)
    have p2 := dr (a + 2 + 4 * j) 40 (by omega) (by decide)
    have p3 := dr (a + 3 + 4 * j) 4 (by omega) (by decide)
    have p4 := dr (a + 1 + 4 * j) rs.length (by omega) (by omega)
    have p5 := dr (a + 2 + 4 * j) cs.length (by omega) (by omega)
    have b4 := drawnF_ok (ns := ns) (k := a + 1 + 4 * j) (many := rs.length) (by omega)
    have b5 := drawnF_ok (ns := ns) (k := a + 2 + 4 * j) (many := cs.length) (by omega)
    have x1 := dIx_int (xs := rs) b4.1 b4.2
    have x2 := dIx_int (xs := cs) b5.1 b5.2
    have ls : ∀ p : Int × Int, 1 ≤ p.1 → 1 ≤ p.2 → p.2 ≤ 60 → (Γ k2).run [.int p.1, .int p.2] = .ok (gT (redP p)) := fun p q1 q2 q3 => by
      rw [h2]
      simp only [m__law_least]
      rw [if_pos ⟨by omega, by omega, by omega⟩]
      rfl
    obtain ⟨a1, a2, a3, a4⟩ := wantP_ok (ns := ns) (a := a) d (j : Int)
    have l := ls _ a1 a3 a4
    have z : j < sizeLine := app_ok (by omega)
    have nx : (List.range (j + 1)).map (fun (j : Nat) => redP (wantP ns a rs cs (j : Int))) = (List.range j).map (fun (j : Nat) => redP (wantP ns a rs cs (j : Int))) ++ [redP (wantP ns a rs cs (j : Int))] := by
      rw [List.range_succ, List.map_append]
      rfl
    rw [nx, List.map_append]
    generalize hLL : ((List.range j).map (fun (j : Nat) => redP (wantP ns a rs cs (j : Int)))).map gT = LL
    have zz : LL.length < sizeLine := by rw [← hLL]; simpa using z
    generalize hww : redP (wantP ns a rs cs (j : Int)) = ww at l
    unfold wantP at l
    by_cases q : 0 < drawnF ns (a + 3 + 4 * j) 4
    · rw [if_pos q] at l
      exact ⟨_, by simp [m, p1, p2, p3, p4, p5, x1, x2, y1, y2, q, l, zz]; exact ⟨rfl, rfl, rfl⟩, _, _, _, rfl⟩
    · rw [if_neg q] at l
      exact ⟨_, by simp [m, p1, p2, p3, q, l, zz]; exact ⟨rfl, rfl, rfl⟩, _, _, _, rfl⟩
  simp [runB, startV, B__law_wanted, w1]

end Cg

set_option maxHeartbeats 1000000
namespace Cg
open PySem PySem.Spec PyProof.Rows L2
/-! ### 49. plans from the front -/
theorem absI_neg (i : Int) : absI (-i) = absI i := by unfold absI; split <;> split <;> omega
theorem shI_comm (p q : Int × Int) : shI p q = shI q p := by
  unfold shI
  rw [← absI_neg (p.1 - q.1), ← absI_neg (p.2 - q.2), Int.neg_sub, Int.neg_sub]
theorem plans_snoc (r : List (Int × Int)) : ∀ R : List (List (Int × Int)), plans (R ++ [r]) = (plans R).flatMap fun p => r.map fun g => p ++ [g]
  | [] => by simp [plans, List.flatMap_singleton', List.map_eq_flatMap]
  | s :: R => by
    show s.flatMap (fun g => (plans (R ++ [r])).map (g :: ·)) = (s.flatMap fun g => (plans R).map (g :: ·)).flatMap _
    rw [plans_snoc r R, List.flatMap_assoc]
    congr 1
    funext g
    rw [List.map_flatMap, List.flatMap_map]
    congr 1
    funext p
    rw [List.map_map]
    rfl
def lastI (g : Int × Int) (p : List (Int × Int)) : Int := match p.getLast? with
  | none => 0
  | some h => shI g h
theorem cost_snoc (g : Int × Int) : ∀ p : List (Int × Int), costI (p ++ [g]) = costI p + lastI g p
  | [] => rfl
  | [h] => by
    show (0 + 0 + shI h g : Int) = 0 + 0 + shI g h
    rw [shI_comm]
  | h :: k :: p => by
    have ih := cost_snoc g (k :: p)
    have e1 : costI (h :: k :: p ++ [g]) = costI (k :: p ++ [g]) + shI h k := rfl
    have e2 : costI (h :: k :: p) = costI (k :: p) + shI h k := rfl
    have e3 : lastI g (h :: k :: p) = lastI g (k :: p) := by
      unfold lastI
      rw [List.getLast?_cons_cons]
    rw [e1, e2, e3, ih]
    omega
theorem plans_card : ∀ (r : List (Int × Int)) (R : List (List (Int × Int))), (plans (r :: R)).length = r.length * (plans R).length := fun r R => by
  show (r.flatMap fun g => (plans R).map (g :: ·)).length = _
  induction r with
  | nil => simp
  | cons g gs ih =>
    rw [List.flatMap_cons, List.length_append, ih, List.length_map, List.length_cons, Nat.succ_mul]
    omega
theorem plans_pow {m : Nat} : ∀ {R : List (List (Int × Int))}, (∀ r ∈ R, r.length ≤ m) → (plans R).length ≤ m ^ R.length
  | [], _ => by simp [plans]
  | r :: R, h => by
    rw [plans_card, List.length_cons, Nat.pow_succ, Nat.mul_comm]
    exact Nat.mul_le_mul (plans_pow fun s hs => h s (List.mem_cons_of_mem _ hs)) (h r List.mem_cons_self)
theorem plans_prod (R : List (List (Int × Int))) : ∀ m : Int, R.foldl (fun m r => m * (r.length : Int)) m = m * ((plans R).length : Int) := by
  induction R with
  | nil => intro m; simp [plans]
  | cons r R ih =>
    intro m
    rw [List.foldl_cons, ih, plans_card, Int.natCast_mul, Int.mul_assoc]
/-- the costs of all plans -/
def allC (R : List (List (Int × Int))) : List (Int × List (Int × Int)) := (plans R).map fun p => (costI p, p)
def growE (row : List (Int × Int)) (x : Int × List (Int × Int)) : List (Int × List (Int × Int)) := row.map fun g => (x.1 + lastI g x.2, x.2 ++ [g])
theorem allC_snoc (R : List (List (Int × Int))) (row : List (Int × Int)) : (allC R).flatMap (growE row) = allC (R ++ [row]) := by
  unfold allC
  rw [plans_snoc, List.map_flatMap, List.flatMap_map]
  congr 1
  funext p
  unfold growE
  rw [List.map_map]
  congr 1
  funext g
  simp only [Function.comp, cost_snoc]
/-- the head of what is sorted is the least -/
theorem sorted_min {R : List (List (Int × Int))} {x : Int × List (Int × Int)} {F : List (Int × List (Int × Int))} (h1 : (x :: F).Perm (allC R)) (h2 : (x :: F).Pairwise fun a b => kC a ≤ kC b) : IsMin R x := by
  have m : x ∈ allC R := h1.mem_iff.mp List.mem_cons_self
  unfold allC at m h1
  obtain ⟨p, hp, rfl⟩ := List.mem_map.mp m
  refine ⟨hp, rfl, fun q hq => ?_⟩
  have : (costI q, q) ∈ (costI p, p) :: F := h1.mem_iff.mpr (List.mem_map.mpr ⟨q, hq, rfl⟩)
  rcases List.mem_cons.mp this with e | e
  · rw [e]; exact List.le_refl _
  · exact (List.pairwise_cons.mp h2).1 _ e

end Cg

set_option maxHeartbeats 1000000
namespace Cg
open PySem PySem.Spec PyProof.Rows L2
/-! ### 50. gears with a ratio -/
def withP (rs cs : List Int) (w g : Int × Int) : Bool := decide (at' rs g.1 * w.2 = w.1 * at' cs g.2)
def withG (rs cs : List Int) (w : Int × Int) : List (Int × Int) := (gearsL rs.length cs.length).filter (withP rs cs w)
theorem ratio_eq {rs cs : List Int} {p w : Int × Int} (hb : bikeB rs cs = true) (hp : inG rs cs p) (h2 : 0 < w.2) (co : (Int.gcd w.1 w.2 : Int) = 1) : dCmp .Eq (ratioD rs cs p.1 p.2) (gT w) = .ok (withP rs cs w p) := by
  obtain ⟨b1, b2, b3, b4⟩ := bikeB_ok hb
  obtain ⟨g1, g2, g3, g4⟩ := hp
  have r2 := b4 _ (at_mem g3 g4)
  have e := eqv_frac (at' rs p.1 / Int.gcd (at' rs p.1) (at' cs p.2)) (at' cs p.2 / Int.gcd (at' rs p.1) (at' cs p.2)) w.1 w.2
  refine e.trans ?_
  unfold withP
  congr 1
  refine decide_eq_decide.mpr ?_
  have rw' : redD w.1 w.2 = gT w := by
    unfold redD
    rw [co]
    simp [gT]
  rw [← red_eq (a := at' rs p.1) (b := at' cs p.2) (by omega) h2, rw']
  simp [redD, gT]
inductive P_find_with : List PyData → Res PyData → Prop
  | mk (rs cs : List Int) (w : Int × Int) (h : bikeB rs cs = true) (h2 : 0 < w.2) (co : (Int.gcd w.1 w.2 : Int) = 1) : P_find_with [bk rs cs, gT w] (.ok (.list ((withG rs cs w).map gT)))
theorem run_find_with (Γ : Tb) (k1 k2 : Nat) (h1 : (Γ k1).run = m_find_ratio) (h2 : (Γ k2).run = m_all_gears) : ∀ ds r, P_find_with ds r → runB Γ 3 (B_find_with k1 k2) ds = r := by
  rintro _ _ ⟨rs, cs, w, h, w2, co⟩
  obtain ⟨b1, b2, b3, b4⟩ := bikeB_ok h
  have few := gears_few b1 b2
  have E : evE Γ (E1_find_with k1 k2) [some (.v (bk rs cs)), some (.v (gT w)), none] = .ok (.list ((withG rs cs w).map gT)) := by
    refine lcf_enc gT (q := withP rs cs w) (g := gT) (by simp [all_gears_at h2 b1 b2]) (fun p hp => ?_) (fun p _ _ => by simp) (by omega)
    have hin : inG rs cs p := mem_gearsL.mp hp
    have c1 := ratio_at h1 h hin
    have c2 := ratio_eq h hin w2 co
    simp [c1, c2]
  simp [runB, startV, B_find_with, E]
inductive P_gears_with : List PyData → Res PyData → Prop
  | mk (rs cs : List Int) (w : Int × Int) (h : okB rs cs = true) (h1 : isIntD (.int w.1) 1 60 = true) (h2 : isIntD (.int w.2) 1 60 = true) (co : (Int.gcd w.1 w.2 : Int) = 1) : P_gears_with [bk rs cs, gT w] (.ok (.list ((withG rs cs w).map gT)))
theorem run_gears_with (Γ : Tb) (k1 k2 k3 : Nat) (h1 : (Γ k1).run = m_check_bike) (h2 : At Γ k2 P_is_ratio) (h3 : At Γ k3 P_find_with) : ∀ ds r, P_gears_with ds r → runB Γ 2 (B_gears_with k1 k2 k3) ds = r := by
  rintro _ _ ⟨rs, cs, w, h, w1, w2, co⟩
  have c := h2 _ _ (.ok w.1 w.2 w1 w2)
  rw [decide_eq_true co] at c
  have e : PyData.tuple [.int w.1, .int w.2] = gT w := rfl
  rw [e] at c
  simp only [isIntD, Bool.and_eq_true, decide_eq_true_eq] at w2
  have c2 := h3 _ _ (.mk rs cs w (okB_ok h).1 (by omega) co)
  simp [runB, startV, B_gears_with, check_bike_at h1 h, c, c2]
inductive P_is_gear : List PyData → Res PyData → Prop
  | mk (rs cs : List Int) (g : PyData) (h : okB rs cs = true) (hg : gearOk g = true) : P_is_gear [bk rs cs, g] (.ok (.bool (hasGearD rs.length cs.length g)))
theorem run_is_gear (Γ : Tb) (k1 k2 : Nat) (h1 : (Γ k1).run = m_has_gear) (h2 : (Γ k2).run = m_check_bike) : ∀ ds r, P_is_gear ds r → runB Γ 2 (B_is_gear k1 k2) ds = r := by
  rintro _ _ ⟨rs, cs, g, h, hg⟩
  have c : (Γ k1).run [bk rs cs, g] = .ok (.bool (hasGearD rs.length cs.length g)) := by
    rw [h1]
    show (if gearOk g = true then Res.ok (PyData.bool (hasGearD (rs.map PyData.int).length (cs.map PyData.int).length g)) else .no) = _
    rw [if_pos hg, List.length_map, List.length_map]
  simp [runB, startV, B_is_gear, check_bike_at h2 h, c]
theorem has_in {rs cs : List Int} {p : Int × Int} (hp : inG rs cs p) : hasGearD rs.length cs.length (gT p) = true := by
  obtain ⟨g1, g2, g3, g4⟩ := hp
  simp [hasGearD, gT, isIntD]
  omega
inductive P_shifts : List PyData → Res PyData → Prop
  | mk (rs cs : List Int) (p q : Int × Int) (h : okB rs cs = true) (hp : inG rs cs p) (hq : inG rs cs q) : P_shifts [bk rs cs, gT p, gT q] (.ok (.int (shI p q)))
theorem run_shifts (Γ : Tb) (k1 k2 k3 : Nat) (h1 : (Γ k1).run = m_check_bike) (h2 : (Γ k2).run = m_check_gear) (h3 : At Γ k3 P_count_shifts) : ∀ ds r, P_shifts ds r → runB Γ 3 (B_shifts k1 k2 k3) ds = r := by
  rintro _ _ ⟨rs, cs, p, q, h, hp, hq⟩
  have c := h3 _ _ (.mk p q)
  simp [runB, startV, B_shifts, check_bike_at h1 h, check_gear_at h2 hp, check_gear_at h2 hq, c]

end Cg

set_option maxHeartbeats 1000000
namespace Cg
open PySem PySem.Spec PyProof.Rows L2
/-! ### 51. plain laws of courses -/
theorem mx_mn {l r : Int} : mxI l r ≤ mnI l r ↔ l = r := by unfold mxI mnI; split <;> split <;> omega
theorem mn_nonneg {l r : Int} (hl : 0 ≤ l) (hr : 0 ≤ r) : 0 ≤ mnI l r := by unfold mnI; split <;> omega
theorem near_mono {rs cs : List Int} (d : Drawn rs cs) {w g : Int × Int} (hg : inG rs cs g) (h1 : 0 ≤ w.1) (h2 : 0 ≤ w.2) {pc pc' : Int} (hp : pc ≤ pc') (h : nearP rs cs w pc g = true) : nearP rs cs w pc' g = true := by
  obtain ⟨g1, g2, g3, g4⟩ := hg
  have r := d.r3 _ (at_mem g1 g2)
  have c := d.c3 _ (at_mem g3 g4)
  unfold nearP nearI at h ⊢
  rw [decide_eq_true_eq] at h ⊢
  have m := mn_nonneg (Int.mul_nonneg (by omega : 0 ≤ at' rs g.1) h2) (Int.mul_nonneg h1 (by omega : 0 ≤ at' cs g.2))
  have := Int.mul_le_mul_of_nonneg_left (by omega : 100 + pc ≤ 100 + pc') m
  omega
theorem near_zero {rs cs : List Int} {w g : Int × Int} : nearP rs cs w 0 g = withP rs cs w g := by
  unfold nearP nearI withP
  refine decide_eq_decide.mpr ?_
  rw [← mx_mn]
  omega
theorem near_with {rs cs : List Int} (d : Drawn rs cs) {w g : Int × Int} (hg : inG rs cs g) (h1 : 0 ≤ w.1) (h2 : 0 ≤ w.2) {pc : Int} (hp : 0 ≤ pc) (h : withP rs cs w g = true) : nearP rs cs w pc g = true :=
  near_mono d hg h1 h2 hp (by rw [near_zero]; exact h)
theorem mem_sut {rs cs : List Int} {pc : Int} {w g : Int × Int} : g ∈ sutG rs cs pc w ↔ inG rs cs g ∧ nearP rs cs w pc g = true := by
  unfold sutG
  rw [List.mem_filter, mem_gearsL]
  rfl
theorem sut_mono {rs cs : List Int} (d : Drawn rs cs) {w g : Int × Int} (h1 : 0 ≤ w.1) (h2 : 0 ≤ w.2) {pc pc' : Int} (hp : pc ≤ pc') (h : g ∈ sutG rs cs pc w) : g ∈ sutG rs cs pc' w := by
  rw [mem_sut] at h ⊢
  exact ⟨h.1, near_mono d h.1 h1 h2 hp h.2⟩
theorem sut_with {rs cs : List Int} (d : Drawn rs cs) {w g : Int × Int} (h1 : 0 ≤ w.1) (h2 : 0 ≤ w.2) {pc : Int} (hp : 0 ≤ pc) (h : g ∈ withG rs cs w) : g ∈ sutG rs cs pc w := by
  unfold withG at h
  rw [List.mem_filter, mem_gearsL] at h
  rw [mem_sut]
  exact ⟨h.1, near_with d h.1 h1 h2 hp h.2⟩
theorem sut_zero {rs cs : List Int} (d : Drawn rs cs) {w : Int × Int} (h1 : 0 ≤ w.1) (h2 : 0 ≤ w.2) {pc : Int} (hp : 0 ≤ pc) : (sutG rs cs pc w).filter (withP rs cs w) = sutG rs cs 0 w := by
  unfold sutG
  rw [List.filter_filter]
  refine List.filter_congr fun g hg => ?_
  have hin : inG rs cs g := mem_gearsL.mp hg
  rw [near_zero]
  cases q : withP rs cs w g with
  | false => rfl
  | true => rw [near_with d hin h1 h2 hp q]; rfl
theorem sut_sorted (rs cs : List Int) (pc : Int) (w : Int × Int) : (sutG rs cs pc w).Pairwise fun a b => leG a b = true := (gearsL_sorted _ _).filter _
theorem full_mono {rs cs : List Int} (d : Drawn rs cs) {ws : List (Int × Int)} (hw : ∀ w ∈ ws, 0 ≤ w.1 ∧ 0 ≤ w.2) {pc pc' : Int} (hp : pc ≤ pc') (h : fullG rs cs ws pc = true) : fullG rs cs ws pc' = true := by
  unfold fullG rowsG at h ⊢
  rw [List.all_map, List.all_eq_true] at h ⊢
  intro w hm
  have := h w hm
  simp only [Function.comp] at this ⊢
  cases hs : sutG rs cs pc w with
  | nil => rw [hs] at this; cases this
  | cons g gs =>
    have := sut_mono d (hw w hm).1 (hw w hm).2 hp (by rw [hs]; exact List.mem_cons_self : g ∈ sutG rs cs pc w)
    cases hs' : sutG rs cs pc' w with
    | nil => rw [hs'] at this; cases this
    | cons _ _ => rfl
/-- rows that hold more -/
theorem plans_sub : ∀ {R S : List (List (Int × Int))}, R.length = S.length → (∀ p ∈ R.zip S, ∀ g ∈ p.1, g ∈ p.2) → ∀ p ∈ plans R, p ∈ plans S
  | [], [], _, _, p, h => h
  | r :: R, s :: S, hl, h, p, hp => by
    obtain ⟨g, hg, q, hq, rfl⟩ := mem_plans.mp hp
    exact mem_plans.mpr ⟨g, h (r, s) (by simp) g hg, q, plans_sub (by simpa using hl) (fun x hx => h x (by simp [hx])) q hq, rfl⟩
  | [], _ :: _, hl, _, _, _ => by simp at hl
  | _ :: _, [], hl, _, _, _ => by simp at hl
theorem min_fst {R S : List (List (Int × Int))} {x y : Int × List (Int × Int)} (hx : IsMin R x) (hy : IsMin S y) (h : x.2 ∈ plans S) : y.1 ≤ x.1 := by
  have := hy.le _ h
  rw [kC_le] at this
  have := hx.eq
  simp only at *
  omega
theorem min_more {rs cs : List Int} (d : Drawn rs cs) {ws : List (Int × Int)} (hw : ∀ w ∈ ws, 0 ≤ w.1 ∧ 0 ≤ w.2) {pc pc' : Int} (hp : pc ≤ pc') {x y : Int × List (Int × Int)} (hx : IsMin (rowsG rs cs ws pc) x) (hy : IsMin (rowsG rs cs ws pc') y) : y.1 ≤ x.1 := by
  refine min_fst hx hy (plans_sub (by unfold rowsG; simp) (fun p hp' g hg => ?_) _ hx.mem)
  unfold rowsG at hp'
  rw [List.zip_map] at hp'
  obtain ⟨⟨w, w'⟩, hm, rfl⟩ := List.mem_map.mp hp'
  have e : w = w' := by
    rw [List.zip_eq_zipWith, List.mem_iff_getElem] at hm
    obtain ⟨i, _, e⟩ := hm
    simp at e
    exact e.1.symm.trans e.2
  subst e
  have hm' := (List.of_mem_zip hm).1
  exact sut_mono d (hw w hm').1 (hw w hm').2 hp hg
/-! backwards -/
theorem last_rev (g : Int × Int) (q : List (Int × Int)) : lastI g q.reverse = extI g q := by
  unfold lastI
  rw [List.getLast?_reverse]
  cases q <;> rfl
theorem cost_rev : ∀ p : List (Int × Int), costI p.reverse = costI p
  | [] => rfl
  | g :: q => by
    rw [List.reverse_cons, cost_snoc, cost_rev q, last_rev]
    rfl
theorem plans_rev : ∀ {R : List (List (Int × Int))} {p : List (Int × Int)}, p ∈ plans R → p.reverse ∈ plans R.reverse
  | [], p, h => by simp [plans] at h; subst h; simp [plans]
  | r :: R, p, h => by
    obtain ⟨g, hg, q, hq, rfl⟩ := mem_plans.mp h
    rw [List.reverse_cons, List.reverse_cons, plans_snoc, List.mem_flatMap]
    exact ⟨q.reverse, plans_rev hq, List.mem_map.mpr ⟨g, hg, rfl⟩⟩
theorem min_rev {R : List (List (Int × Int))} {x y : Int × List (Int × Int)} (hx : IsMin R x) (hy : IsMin R.reverse y) : y.1 = x.1 := by
  have a := hy.le _ (plans_rev hx.mem)
  have m := plans_rev hy.mem
  rw [List.reverse_reverse] at m
  have b := hx.le _ m
  rw [kC_le] at a b
  simp only [cost_rev] at a b
  have := hx.eq
  have := hy.eq
  omega
theorem absI_nonneg (i : Int) : 0 ≤ absI i := by unfold absI; split <;> omega
theorem ext_nonneg (g : Int × Int) (p : List (Int × Int)) : 0 ≤ extI g p := by
  cases p with
  | nil => exact Int.le_refl _
  | cons h t =>
    have a := absI_nonneg (g.1 - h.1)
    have b := absI_nonneg (g.2 - h.2)
    show 0 ≤ absI (g.1 - h.1) + absI (g.2 - h.2)
    omega
theorem min_tail {r : List (Int × Int)} {R : List (List (Int × Int))} {x y : Int × List (Int × Int)} (hx : IsMin (r :: R) x) (hy : IsMin R y) : y.1 ≤ x.1 := by
  obtain ⟨g, hg, q, hq, e⟩ := mem_plans.mp hx.mem
  have a := hy.le _ hq
  rw [kC_le] at a
  have c := hx.eq
  rw [e] at c
  have n := ext_nonneg g q
  have c' : x.1 = costI q + extI g q := c
  simp only at a
  omega
theorem min_single {g : Int × Int} {r : List (Int × Int)} (hs : (g :: r).Pairwise fun a b => leG a b = true) : IsMin [g :: r] (0, [g]) := by
  refine ⟨by simp [plans], rfl, fun p hp => ?_⟩
  obtain ⟨h, hh, q, hq, rfl⟩ := mem_plans.mp hp
  simp [plans] at hq
  subst hq
  have le : leG g h = true := by
    rcases List.mem_cons.mp hh with rfl | hh
    · unfold leG; simp
    · exact (List.pairwise_cons.mp hs).1 h hh
  rw [kC_le]
  refine .inr ⟨rfl, ?_⟩
  unfold leG at le
  rw [decide_eq_true_eq] at le
  simp only [kP, List.cons_le_cons_iff]
  rcases le with h1 | ⟨h1, h2⟩
  · exact .inl h1
  · refine .inr ⟨h1, ?_⟩
    rcases Int.lt_or_eq_of_le h2 with h3 | h3
    · exact .inl h3
    · exact .inr ⟨h3, List.le_refl _⟩
theorem cost_zip : ∀ p : List (Int × Int), ((p.zip (p.drop 1)).map fun x => shI x.1 x.2).sum = costI p
  | [] => rfl
  | [g] => rfl
  | g :: h :: p => by
    have ih := cost_zip (h :: p)
    show shI g h + (((h :: p).zip ((h :: p).drop 1)).map fun x => shI x.1 x.2).sum = costI (h :: p) + shI g h
    rw [ih, Int.add_comm]
theorem plan_at : ∀ {R : List (List (Int × Int))} {p : List (Int × Int)}, p ∈ plans R → ∀ {i : Nat} {g : Int × Int}, p[i]? = some g → ∃ r, R[i]? = some r ∧ g ∈ r
  | [], p, h, i, g, hg => by simp [plans] at h; subst h; simp at hg
  | r :: R, p, h, i, g, hg => by
    obtain ⟨k, hk, q, hq, rfl⟩ := mem_plans.mp h
    cases i with
    | zero => simp at hg; subst hg; exact ⟨r, rfl, hk⟩
    | succ i =>
      rw [List.getElem?_cons_succ] at hg ⊢
      exact plan_at hq hg
theorem rows_in {rs cs : List Int} {ws : List (Int × Int)} {pc : Int} {r : List (Int × Int)} (h : r ∈ rowsG rs cs ws pc) : ∀ g ∈ r, inG rs cs g := fun g hg => by
  obtain ⟨w, _, rfl⟩ := List.mem_map.mp h
  exact (mem_sut.mp hg).1

end Cg

set_option maxHeartbeats 1000000
namespace Cg
open PySem PySem.Spec PyProof.Rows L2
/-! ### 52. more of lists and rows -/
theorem okD_rows (R : List (List (Int × Int))) : okD (.list (R.map encR)) = true := by
  have h1 := plainAll_of (α := List (Int × Int)) R
  have h2 := depthAll_of (α := List (Int × Int)) R
  have e : R.map PySem.W.Datum.toD = R.map encR := rfl
  rw [e] at h1 h2
  have e3 : PySem.W.Datum.depth (List (Int × Int)) ≤ 10 := by decide
  have h3 := Nat.le_trans h2 e3
  unfold okD
  rw [Bool.and_eq_true]
  refine ⟨by simpa [PyData.plain] using h1, decide_eq_true ?_⟩
  simp [PyData.depth]
  omega
theorem min_exists {R : List (List (Int × Int))} (h : [] ∉ R) : ∃ x, IsMin R x := by
  cases hp : allC R with
  | nil =>
    unfold allC at hp
    rw [List.map_eq_nil_iff, plans_none] at hp
    exact (h hp).elim
  | cons x F =>
    obtain ⟨m, _, h4, h5⟩ := min_key keyed_cost (by decide) x F
    rw [← hp] at h4 h5
    unfold allC at h4 h5
    obtain ⟨p, hp', rfl⟩ := List.mem_map.mp h4
    exact ⟨_, hp', rfl, fun q hq => h5 _ (List.mem_map.mpr ⟨q, hq, rfl⟩)⟩
theorem dIx_lastL {xs : List PyData} {d : PyData} (h : xs.getLast? = some d) : dIx (.list xs) (.int (-1)) = .ok d := by
  have ne : xs ≠ [] := by intro e; subst e; cases h
  have l : 1 ≤ xs.length := List.length_pos_iff.mpr ne
  unfold dIx
  simp only
  have e : atI xs (-1) = some d := by
    have e2 : atI xs (-1) = atI xs ((xs.length : Int) - 1) := by
      unfold atI ixN
      rw [if_neg (by decide), if_pos (by omega), if_pos (by omega), if_pos (by omega)]
      have : (-1 + (xs.length : Int)).toNat = ((xs.length : Int) - 1).toNat := by omega
      rw [this]
    rw [List.getLast?_eq_getElem?] at h
    rw [e2, atI_nn (by omega), ← h]
    congr 1
    omega
  rw [e]
theorem cut_head (xs : List PyData) (k : Nat) : cutD xs none (some (k : Int)) = xs.take k := by
  unfold cutD
  rw [HT.sIx_nat]
  simp [HT.sIx_none, List.take_eq_take_iff]
theorem cut_from (xs : List PyData) (k : Nat) : cutD xs (some (k : Int)) none = xs.drop k := by
  unfold cutD
  rw [HT.sIx_nat]
  simp only [HT.sIx_none]
  by_cases h : k ≤ xs.length
  · rw [Nat.min_eq_left h]
    exact List.take_of_length_le (by rw [List.length_drop]; exact Nat.le_refl _)
  · rw [Nat.min_eq_right (by omega), List.drop_of_length_le (by omega : xs.length ≤ xs.length), List.drop_of_length_le (by omega : xs.length ≤ k)]
    simp
theorem cogs5 (ns : List Int) (a : Int) : (cogsF ns a).length ≤ 5 := Nat.le_trans (ssetI_ok _).1 (cogL_ok ns a).2.1

end Cg

set_option maxHeartbeats 1000000
namespace Cg
open PySem PySem.Spec PyProof.Rows L2
/-! ### 53. the ladder -/
/-- a gear's ratio as a whole number: over the product of the cogs -/
def vG (rs cs : List Int) (g : Int × Int) : Int := at' rs g.1 * (prodI cs / at' cs g.2)
theorem teeth_in {rs cs : List Int} {p : Int × Int} (d : Drawn rs cs) (hp : inG rs cs p) : 10 ≤ at' rs p.1 ∧ at' rs p.1 ≤ 60 ∧ 8 ≤ at' cs p.2 ∧ at' cs p.2 ≤ 50 := by
  obtain ⟨g1, g2, g3, g4⟩ := hp
  have r := d.r3 _ (at_mem g1 g2)
  have c := d.c3 _ (at_mem g3 g4)
  exact ⟨r.1, r.2, c.1, c.2⟩
theorem vG_mul {rs cs : List Int} {p q : Int × Int} (d : Drawn rs cs) (hp : inG rs cs p) (hq : inG rs cs q) : ∃ k : Int, 0 < k ∧ vG rs cs p * (at' cs p.2 * at' cs q.2) = at' rs p.1 * at' cs q.2 * k ∧ vG rs cs q * (at' cs p.2 * at' cs q.2) = at' rs q.1 * at' cs p.2 * k ∧ 0 < at' cs p.2 * at' cs q.2 := by
  have tp := teeth_in d hp
  have tq := teeth_in d hq
  obtain ⟨_, _, g3, g4⟩ := hp
  obtain ⟨_, _, g5, g6⟩ := hq
  obtain ⟨u, hu⟩ := (prod_dvd cs 1).2 _ (at_mem g3 g4)
  obtain ⟨v, hv⟩ := (prod_dvd cs 1).2 _ (at_mem g5 g6)
  have pp : 0 < prodI cs := prod_pos cs 1 (by decide) fun x hx => by have := d.c3 x hx; omega
  unfold vG
  change prodI cs = _ at hu hv
  generalize prodI cs = P at *
  generalize at' cs p.2 = c at *
  generalize at' cs q.2 = k at *
  have d1 : P / c = u := by rw [hu]; exact Int.mul_ediv_cancel_left _ (by omega)
  have d2 : P / k = v := by rw [hv]; exact Int.mul_ediv_cancel_left _ (by omega)
  rw [d1, d2]
  refine ⟨P, pp, ?_, ?_, Int.mul_pos (by omega) (by omega)⟩
  · rw [hu]; simp only [Int.mul_assoc, Int.mul_comm, Int.mul_left_comm]
  · rw [hv]; simp only [Int.mul_assoc, Int.mul_comm, Int.mul_left_comm]
theorem vG_lt {rs cs : List Int} {p q : Int × Int} (d : Drawn rs cs) (hp : inG rs cs p) (hq : inG rs cs q) : vG rs cs p < vG rs cs q ↔ at' rs p.1 * at' cs q.2 < at' rs q.1 * at' cs p.2 := by
  obtain ⟨k, k0, e1, e2, z⟩ := vG_mul d hp hq
  have a : vG rs cs p < vG rs cs q ↔ vG rs cs p * (at' cs p.2 * at' cs q.2) < vG rs cs q * (at' cs p.2 * at' cs q.2) := (Int.mul_lt_mul_right z).symm
  have b : at' rs p.1 * at' cs q.2 * k < at' rs q.1 * at' cs p.2 * k ↔ at' rs p.1 * at' cs q.2 < at' rs q.1 * at' cs p.2 := Int.mul_lt_mul_right k0
  rw [a, e1, e2, b]
theorem vG_le {rs cs : List Int} {p q : Int × Int} (d : Drawn rs cs) (hp : inG rs cs p) (hq : inG rs cs q) : vG rs cs p ≤ vG rs cs q ↔ at' rs p.1 * at' cs q.2 ≤ at' rs q.1 * at' cs p.2 := by
  have := vG_lt d hq hp
  omega
theorem vG_eq {rs cs : List Int} {p q : Int × Int} (d : Drawn rs cs) (hp : inG rs cs p) (hq : inG rs cs q) : vG rs cs p = vG rs cs q ↔ at' rs p.1 * at' cs q.2 = at' rs q.1 * at' cs p.2 := by
  have := vG_lt d hq hp
  have := vG_lt d hp hq
  omega
/-- a gear's ratio -/
def ratP (rs cs : List Int) (g : Int × Int) : Int × Int := redP (at' rs g.1, at' cs g.2)
theorem ratP_D (rs cs : List Int) (g : Int × Int) : ratioD rs cs g.1 g.2 = gT (ratP rs cs g) := rfl
theorem gT_inj {p q : Int × Int} (h : gT p = gT q) : p = q := by
  simp only [gT, PyData.tuple.injEq, List.cons.injEq, PyData.int.injEq, and_true] at h
  exact Prod.ext h.1 h.2
theorem ratP_eq {rs cs : List Int} {p q : Int × Int} (d : Drawn rs cs) (hp : inG rs cs p) (hq : inG rs cs q) : ratP rs cs p = ratP rs cs q ↔ vG rs cs p = vG rs cs q := by
  have tp := teeth_in d hp
  have tq := teeth_in d hq
  rw [vG_eq d hp hq, ← red_eq (a := at' rs p.1) (b := at' cs p.2) (c := at' rs q.1) (d := at' cs q.2) (by omega) (by omega), redP_gT, redP_gT]
  exact ⟨fun h => congrArg gT h, gT_inj⟩
theorem ratP_ok {rs cs : List Int} {p : Int × Int} (d : Drawn rs cs) (hp : inG rs cs p) : 1 ≤ (ratP rs cs p).1 ∧ (ratP rs cs p).1 ≤ 60 ∧ 1 ≤ (ratP rs cs p).2 ∧ (ratP rs cs p).2 ≤ 60 ∧ (Int.gcd (ratP rs cs p).1 (ratP rs cs p).2 : Int) = 1 := by
  have tp := teeth_in d hp
  exact redP_ok (by simp only; omega) (by simp only; omega) (by simp only; omega) (by simp only; omega)
theorem withP_rat {rs cs : List Int} {p q : Int × Int} (d : Drawn rs cs) (hp : inG rs cs p) (hq : inG rs cs q) : withP rs cs (ratP rs cs p) q = decide (vG rs cs q = vG rs cs p) := by
  have tp := teeth_in d hp
  have tq := teeth_in d hq
  have ok := ratP_ok d hp
  unfold withP
  refine decide_eq_decide.mpr ?_
  have e : redD (ratP rs cs p).1 (ratP rs cs p).2 = gT (ratP rs cs p) := by
    unfold redD
    rw [ok.2.2.2.2]
    simp [gT]
  rw [← red_eq (a := at' rs q.1) (b := at' cs q.2) (by omega) (by omega), e, ← ratP_eq d hq hp, redP_gT]
  exact ⟨gT_inj, fun h => congrArg gT h⟩
/-- one gear for each ratio, ascending -/
structure IsLad (rs cs : List Int) (Gs : List (Int × Int)) : Prop where
  ins : ∀ g ∈ Gs, inG rs cs g
  asc : Gs.Pairwise fun p q => vG rs cs p < vG rs cs q
  all : ∀ g, inG rs cs g → ∃ h ∈ Gs, vG rs cs h = vG rs cs g
theorem asc_uniq : ∀ {l m : List Int}, l.Pairwise (· < ·) → m.Pairwise (· < ·) → (∀ x, x ∈ l ↔ x ∈ m) → l = m
  | [], [], _, _, _ => rfl
  | [], y :: m, _, _, h => by have := (h y).mpr List.mem_cons_self; cases this
  | x :: l, [], _, _, h => by have := (h x).mp List.mem_cons_self; cases this
  | x :: l, y :: m, h1, h2, h => by
    obtain ⟨a1, a2⟩ := List.pairwise_cons.mp h1
    obtain ⟨b1, b2⟩ := List.pairwise_cons.mp h2
    have e : x = y := by
      rcases List.mem_cons.mp ((h x).mp List.mem_cons_self) with e | e
      · exact e
      · rcases List.mem_cons.mp ((h y).mpr List.mem_cons_self) with e' | e'
        · exact e'.symm
        · have := b1 x e; have := a1 y e'; omega
    subst e
    refine congrArg (x :: ·) (asc_uniq a2 b2 fun z => ⟨fun hz => ?_, fun hz => ?_⟩)
    · rcases List.mem_cons.mp ((h z).mp (List.mem_cons_of_mem _ hz)) with e | e
      · have := a1 z hz; omega
      · exact e
    · rcases List.mem_cons.mp ((h z).mpr (List.mem_cons_of_mem _ hz)) with e | e
      · have := b1 z hz; omega
      · exact e
theorem map_of_map {α β γ : Type} {f : α → β} {g : α → γ} : ∀ {xs ys : List α}, (∀ x ∈ xs, ∀ y ∈ ys, f x = f y → g x = g y) → xs.map f = ys.map f → xs.map g = ys.map g
  | [], [], _, _ => rfl
  | [], _ :: _, _, h => by simp at h
  | _ :: _, [], _, h => by simp at h
  | x :: xs, y :: ys, k, h => by
    simp only [List.map_cons, List.cons.injEq] at h ⊢
    exact ⟨k x (by simp) y (by simp) h.1, map_of_map (fun a ha b hb => k a (by simp [ha]) b (by simp [hb])) h.2⟩
theorem IsLad.uniq {rs cs : List Int} {A B : List (Int × Int)} (d : Drawn rs cs) (h : IsLad rs cs A) (h' : IsLad rs cs B) : A.map (ratP rs cs) = B.map (ratP rs cs) := by
  refine map_of_map (f := vG rs cs) (fun x hx y hy e => (ratP_eq d (h.ins x hx) (h'.ins y hy)).mpr e) (asc_uniq (List.pairwise_map.mpr h.asc) (List.pairwise_map.mpr h'.asc) fun v => ?_)
  rw [List.mem_map, List.mem_map]
  constructor
  · rintro ⟨g, hg, rfl⟩
    obtain ⟨k, hk, e⟩ := h'.all g (h.ins g hg)
    exact ⟨k, hk, e⟩
  · rintro ⟨g, hg, rfl⟩
    obtain ⟨k, hk, e⟩ := h.all g (h'.ins g hg)
    exact ⟨k, hk, e⟩
theorem cut_last (xs : List PyData) : cutD xs (some (-1)) none = xs.drop (xs.length - 1) := by
  unfold cutD
  have e : HT.sIx xs.length 0 (some (-1)) = xs.length - 1 := by
    show (if (-1 : Int) < 0 then ((-1 : Int) + (xs.length : Int)).toNat else min ((-1 : Int).toNat) xs.length) = _
    rw [if_pos (by decide)]
    omega
  rw [e]
  simp only [HT.sIx_none]
  exact List.take_of_length_le (by rw [List.length_drop]; exact Nat.le_refl _)
inductive P_find_ladder : List PyData → Res PyData → Prop
  | mk (rs cs : List Int) (Gs : List (Int × Int)) (d : Drawn rs cs) (h : IsLad rs cs Gs) : P_find_ladder [bk rs cs] (.ok (.list ((Gs.map (ratP rs cs)).map gT)))
theorem eqv_gT (p q : Int × Int) : PyData.eqv (gT p) (gT q) = decide (p = q) := eqv_ii p q
theorem ladder_loop (Γ : Tb) (k1 k2 : Nat) (h1 : (Γ k1).run = m_find_ratio) (h2 : (Γ k2).run = m_find_gears) (rs cs : List Int) (d : Drawn rs cs) : ∃ Gs a2 a3, IsLad rs cs Gs ∧ Gs.length ≤ 24 ∧ evS Γ (L1_find_ladder k1 k2) [some (.v (bk rs cs)), some (.l ([])), none, none] = .ok (.nx [some (.v (bk rs cs)), some (.l ((Gs.map (ratP rs cs)).map gT)), a2, a3]) := by
  have b0 := (okB_ok d.ok).1
  have few := gears_few d.r2 d.c2
  obtain ⟨gs, e1, e2, e3⟩ := findG_sorted rs cs
  have gin : ∀ g ∈ gs, inG rs cs g := fun g hg => mem_gearsL.mp (e2.mem_iff.mp hg)
  have c2 : (Γ k2).run [bk rs cs] = .ok (.list (gs.map gT)) := by
    rw [h2, ← e1]
    simp only [m_find_gears, rdB_eq]
    rw [if_pos b0]
  have srt : gs.Pairwise fun p q => vG rs cs p ≤ vG rs cs q := List.Pairwise.imp_of_mem (fun {p q} hp hq h => (vG_le d (gin p hp) (gin q hq)).mpr (leR_of d (gin p hp) (gin q hq) h)) e3
  have gl : gs.length ≤ 24 := by rw [e2.length_eq]; exact few
  have ei : evI Γ (.val (.call k2 (.cons (.var 0) .nil))) [some (.v (bk rs cs)), some (.l ([])), none, none] = .ok (gs.map gT) := by simp [c2]
  unfold L1_find_ladder
  rw [ts_for, ei, bind_ok]
  have main := for_doneL gT (f := fun x e => (bindT (.one 2) x e).bind fun e' => evSs Γ (.cons (.asg 3 (.call k1 (.cons (.var 0) (.cons (.var 2) .nil))))
    (.cons (.ife (.cmp .NotEq (.slc (.bor 1) (.some (.neg (.int 1))) .none) (.lst (.cons (.var 3) .nil)))
    (.cons (.app 1 (.var 3))
    .nil)
    .nil)
    .nil)) e') (fun done e => ∃ Gs a2 a3, e = [some (.v (bk rs cs)), some (.l ((Gs.map (ratP rs cs)).map gT)), a2, a3] ∧ (∀ g ∈ Gs, g ∈ done) ∧ (Gs.Pairwise fun p q => vG rs cs p < vG rs cs q) ∧ (∀ g ∈ done, ∃ h ∈ Gs, vG rs cs h = vG rs cs g) ∧ Gs.length ≤ done.length) gs [some (.v (bk rs cs)), some (.l ([])), none, none] ⟨[], _, _, rfl, by simp, by simp, by simp, by simp⟩ ?_
  · obtain ⟨_, w, Gs, a2, a3, rfl, p1, p2, p3, p4⟩ := main
    exact ⟨Gs, a2, a3, ⟨fun g hg => gin g (p1 g hg), p2, fun g hg => p3 g (e2.mem_iff.mpr (mem_gearsL.mpr hg))⟩, by omega, w⟩
  rintro done x rest _ hx ⟨Gs, a2, a3, rfl, p1, p2, p3, p4⟩
  have xin : inG rs cs x := gin x (by rw [hx]; simp)
  have dl : done.length ≤ 24 := by have := congrArg List.length hx; rw [List.length_append, List.length_cons] at this; omega
  have c1 := ratio_at h1 b0 xin
  rw [ratP_D] at c1
  have le : ∀ g ∈ done, vG rs cs g ≤ vG rs cs x := fun g hg => by
    rw [hx, List.pairwise_append] at srt
    exact srt.2.2 g hg x (by simp)
  have sl : dSlc (.list ((Gs.map (ratP rs cs)).map gT)) (some (-1)) none = .ok (.list (((Gs.map (ratP rs cs)).map gT).drop (((Gs.map (ratP rs cs)).map gT).length - 1))) := congrArg (fun l => Res.ok (PyData.list l)) (cut_last _)
  have z : ((Gs.map (ratP rs cs)).map gT).length < sizeLine := app_ok (by rw [List.length_map, List.length_map]; omega)
  have okx : okD (.list [gT (ratP rs cs x)]) = true := okD_gears [ratP rs cs x]
  have app : (∀ g ∈ Gs, vG rs cs g < vG rs cs x) → (∀ g ∈ Gs ++ [x], g ∈ done ++ [x]) ∧ ((Gs ++ [x]).Pairwise fun p q => vG rs cs p < vG rs cs q) ∧ (∀ g ∈ done ++ [x], ∃ h ∈ Gs ++ [x], vG rs cs h = vG rs cs g) ∧ (Gs ++ [x]).length ≤ (done ++ [x]).length := fun lt => by
    refine ⟨fun g hg => ?_, ?_, fun g hg => ?_, by simp; omega⟩
    · rcases List.mem_append.mp hg with hg | hg
      · exact List.mem_append.mpr (.inl (p1 g hg))
      · exact List.mem_append.mpr (.inr hg)
    · rw [List.pairwise_append]
      exact ⟨p2, by simp, fun a ha b hb => by simp at hb; subst hb; exact lt a ha⟩
    · rcases List.mem_append.mp hg with hg | hg
      · obtain ⟨h, h1, h2⟩ := p3 g hg
        exact ⟨h, by simp [h1], h2⟩
      · simp at hg
        subst hg
        exact ⟨_, by simp, rfl⟩
  have fin : ((Gs ++ [x]).map (ratP rs cs)).map gT = (Gs.map (ratP rs cs)).map gT ++ [gT (ratP rs cs x)] := by simp
  cases hl : Gs.getLast? with
  | none =>
    have g0 : Gs = [] := by simpa using hl
    subst g0
    obtain ⟨q1, q2, q3, q4⟩ := app (by simp)
    have ne : dCmp .NotEq (.list []) (.list [gT (ratP rs cs x)]) = .ok true := by
      rw [ne_at (by decide) okx]
      simp [PyData.eqv, PyData.eqvAll]
    refine ⟨[some (.v (bk rs cs)), some (.l ((([] ++ [x]).map (ratP rs cs)).map gT)), some (.v (gT x)), some (.v (gT (ratP rs cs x)))], ?_, [] ++ [x], _, _, rfl, q1, q2, q3, q4⟩
    simp at sl
    simp [c1, sl, ne, app_ok]
  | some y =>
    obtain ⟨Hs, hH⟩ := List.getLast?_eq_some_iff.mp hl
    have ym : y ∈ Gs := by rw [hH]; simp
    have yin : inG rs cs y := gin y (by rw [hx]; simp [p1 y ym])
    have dr : ((Gs.map (ratP rs cs)).map gT).drop (((Gs.map (ratP rs cs)).map gT).length - 1) = [gT (ratP rs cs y)] := by
      rw [hH]
      simp [List.drop_append]
    rw [dr] at sl
    have ne : dCmp .NotEq (.list [gT (ratP rs cs y)]) (.list [gT (ratP rs cs x)]) = .ok (!decide (vG rs cs y = vG rs cs x)) := by
      rw [ne_at (show okD (.list [gT (ratP rs cs y)]) = true from okD_gears [ratP rs cs y]) okx]
      simp only [PyData.eqv, PyData.eqvAll, Bool.and_true, eqv_gT]
      rw [decide_eq_decide.mpr (ratP_eq d yin xin)]
    by_cases q : vG rs cs y = vG rs cs x
    · rw [decide_eq_true q] at ne
      refine ⟨[some (.v (bk rs cs)), some (.l ((Gs.map (ratP rs cs)).map gT)), some (.v (gT x)), some (.v (gT (ratP rs cs x)))], ?_, Gs, _, _, rfl, fun g hg => List.mem_append.mpr (.inl (p1 g hg)), p2, fun g hg => ?_, by simp; omega⟩
      · generalize (Gs.map (ratP rs cs)).map gT = L at *
        simp [c1, sl, ne]
      · rcases List.mem_append.mp hg with hg | hg
        · exact p3 g hg
        · simp at hg
          subst hg
          exact ⟨y, ym, q⟩
    · rw [decide_eq_false q] at ne
      obtain ⟨q1, q2, q3, q4⟩ := app fun g hg => by
        have l1 := le y (p1 y ym)
        rw [hH] at hg p2
        rcases List.mem_append.mp hg with hg | hg
        · have := (List.pairwise_append.mp p2).2.2 g hg y (by simp)
          omega
        · simp at hg
          subst hg
          omega
      refine ⟨[some (.v (bk rs cs)), some (.l (((Gs ++ [x]).map (ratP rs cs)).map gT)), some (.v (gT x)), some (.v (gT (ratP rs cs x)))], ?_, Gs ++ [x], _, _, rfl, q1, q2, q3, q4⟩
      rw [fin]
      generalize (Gs.map (ratP rs cs)).map gT = L at *
      simp [c1, sl, ne, z]
theorem run_find_ladder (Γ : Tb) (k1 k2 : Nat) (h1 : (Γ k1).run = m_find_ratio) (h2 : (Γ k2).run = m_find_gears) : ∀ ds r, P_find_ladder ds r → runB Γ 4 (B_find_ladder k1 k2) ds = r := by
  rintro _ _ ⟨rs, cs, Gs, d, h⟩
  obtain ⟨Hs, a2, a3, hH, _, w⟩ := ladder_loop Γ k1 k2 h1 h2 rs cs d
  rw [h.uniq d hH]
  simp only [runB, startV, B_find_ladder]
  generalize (Hs.map (ratP rs cs)).map gT = L at *
  simp [w]
theorem lad_exists {rs cs : List Int} (d : Drawn rs cs) : ∃ Gs, IsLad rs cs Gs ∧ Gs.length ≤ 24 := by
  obtain ⟨Hs, _, _, h, l, _⟩ := ladder_loop (fun k => if k = 0 then ⟨"", 2, 0, m_find_ratio⟩ else ⟨"", 1, 0, m_find_gears⟩) 0 1 rfl rfl rs cs d
  exact ⟨Hs, h, l⟩

end Cg

set_option maxHeartbeats 1000000
namespace Cg
open PySem PySem.Spec PyProof.Rows L2
/-! ### 54. the next gears -/
/-- the nearest gear of a value -/
structure IsNst (rs cs : List Int) (g : Int × Int) (v : Int) (m : Int × Int) : Prop where
  ins : inG rs cs m
  val : vG rs cs m = v
  le : ∀ q, inG rs cs q → vG rs cs q = v → kS (shI g m, m) ≤ kS (shI g q, q)
theorem IsNst.uniq {rs cs : List Int} {g : Int × Int} {v : Int} {m n : Int × Int} (h : IsNst rs cs g v m) (h' : IsNst rs cs g v n) : m = n := by
  have a := List.le_antisymm (h.le n h'.ins h'.val) (h'.le m h.ins h.val)
  have := kS_inj a
  exact (Prod.mk.inj this).2
def encS (g q : Int × Int) : PyData := .tuple [.int (shI g q), gT q]
theorem min_near {rs cs : List Int} {g : Int × Int} {v : Int} {qs : List (Int × Int)} (h : ∀ q, q ∈ qs ↔ inG rs cs q ∧ vG rs cs q = v) (hne : qs ≠ []) : ∃ m, IsNst rs cs g v m ∧ dBlt .minL [.list (qs.map (encS g))] = .ok (encS g m) := by
  cases qs with
  | nil => exact (hne rfl).elim
  | cons q qs =>
    obtain ⟨z, h1, h2, h3⟩ := min_key keyed_score (by decide) (shI g q, q) (qs.map fun q => (shI g q, q))
    have e : ((shI g q, q) :: qs.map fun q => (shI g q, q)) = (q :: qs).map fun q => (shI g q, q) := rfl
    rw [e] at h1 h2 h3
    obtain ⟨m, hm, rfl⟩ := List.mem_map.mp h2
    rw [List.map_map] at h1
    have hm' := (h m).mp hm
    exact ⟨m, ⟨hm'.1, hm'.2, fun q hq hv => h3 _ (List.mem_map.mpr ⟨q, (h q).mpr ⟨hq, hv⟩, rfl⟩)⟩, h1⟩
inductive P_nearest_gear : List PyData → Res PyData → Prop
  | mk (rs cs : List Int) (g h m : Int × Int) (d : Drawn rs cs) (hh : inG rs cs h) (hm : IsNst rs cs g (vG rs cs h) m) : P_nearest_gear [bk rs cs, gT g, gT (ratP rs cs h)] (.ok (gT m))
theorem run_nearest_gear (Γ : Tb) (k1 k2 : Nat) (h1 : At Γ k1 P_find_with) (h2 : At Γ k2 P_count_shifts) : ∀ ds r, P_nearest_gear ds r → runB Γ 4 (B_nearest_gear k1 k2) ds = r := by
  rintro _ _ ⟨rs, cs, g, h, m, d, hh, hm⟩
  have few := gears_few d.r2 d.c2
  have ok := ratP_ok d hh
  have c1 := h1 _ _ (.mk rs cs (ratP rs cs h) (okB_ok d.ok).1 (by omega) ok.2.2.2.2)
  have mem : ∀ q, q ∈ withG rs cs (ratP rs cs h) ↔ inG rs cs q ∧ vG rs cs q = vG rs cs h := fun q => by
    unfold withG
    rw [List.mem_filter, mem_gearsL]
    constructor
    · rintro ⟨a, b⟩
      rw [withP_rat d hh a, decide_eq_true_eq] at b
      exact ⟨a, b⟩
    · rintro ⟨a, b⟩
      refine ⟨a, ?_⟩
      rw [withP_rat d hh a, decide_eq_true_eq]
      exact b
  have len : (withG rs cs (ratP rs cs h)).length ≤ 24 := Nat.le_trans (List.length_filter_le _ _) few
  have ne : withG rs cs (ratP rs cs h) ≠ [] := fun e => by
    have := (mem h).mpr ⟨hh, rfl⟩
    rw [e] at this
    cases this
  obtain ⟨m', hm', mn⟩ := min_near (g := g) mem ne
  rw [hm'.uniq hm] at mn
  generalize withG rs cs (ratP rs cs h) = W at *
  have E : evE Γ (E1_nearest_gear k1 k2) [some (.v (bk rs cs)), some (.v (gT g)), some (.v (gT (ratP rs cs h))), none] = .ok (.list (W.map (encS g))) := by
    refine lc_enc gT (g := encS g) (by simp [c1]) (fun q hq => ?_) (by omega)
    have c := h2 _ _ (.mk g q)
    simp [c, encS]
  have i1 : dIx (encS g m) (.int 1) = .ok (gT m) := ix_t1 _ _ _
  simp [runB, startV, B_nearest_gear, E, mn, i1]
/-- the next gear that way -/
inductive NextR (rs cs : List Int) (g : Int × Int) (way : Int) : PyData → Prop
  | none (h : ∀ q, inG rs cs q → ¬ 0 < (vG rs cs q - vG rs cs g) * way) : NextR rs cs g way .none
  | some (b m : Int × Int) (hb : inG rs cs b) (h1 : 0 < (vG rs cs b - vG rs cs g) * way) (h2 : ∀ q, inG rs cs q → 0 < (vG rs cs q - vG rs cs g) * way → 0 ≤ (vG rs cs q - vG rs cs b) * way) (hm : IsNst rs cs g (vG rs cs b) m) : NextR rs cs g way (gT m)
theorem NextR.uniq {rs cs : List Int} {g : Int × Int} {way : Int} {x y : PyData} (hw : way = 1 ∨ way = -1) (h : NextR rs cs g way x) (h' : NextR rs cs g way y) : x = y := by
  cases h with
  | none h => cases h' with
    | none _ => rfl
    | some b m hb h1 _ _ => exact (h b hb h1).elim
  | some b m hb h1 h2 hm => cases h' with
    | none h => exact (h b hb h1).elim
    | some c n hc k1 k2 hn =>
      have a1 := h2 c hc k1
      have a2 := k2 b hb h1
      have e : vG rs cs b = vG rs cs c := by rcases hw with rfl | rfl <;> omega
      rw [e] at hm
      rw [hm.uniq hn]
theorem shaped_gT (p : Int × Int) : PySem.SeqAt.shaped (gT p) = true := by
  simp [PySem.SeqAt.shaped, gT, PyData.canLay0, PyData.canLayAll0, PyData.depth, PyData.depthAll]
theorem canLay_gears : ∀ qs : List (Int × Int), PyData.canLayAll0 (qs.map gT) = true
  | [] => rfl
  | q :: qs => by
    rw [List.map_cons]
    unfold PyData.canLayAll0
    rw [canLay_gears qs, PySem.SeqAt.canLay_of_shaped (shaped_gT q)]
    rfl
theorem shaped_gears (qs : List (Int × Int)) : PySem.SeqAt.shaped (.list (qs.map gT)) = true := by
  have h := depthAll_gears qs
  unfold PySem.SeqAt.shaped
  rw [Bool.and_eq_true]
  refine ⟨by unfold PyData.canLay0; exact canLay_gears qs, decide_eq_true ?_⟩
  simp [PyData.depth]
  omega
theorem idx_rat {rs cs : List Int} {Gs : List (Int × Int)} (d : Drawn rs cs) (hG : IsLad rs cs Gs) {g : Int × Int} (hg : inG rs cs g) {i : Nat} {h : Int × Int} (hi : Gs[i]? = some h) (hv : vG rs cs h = vG rs cs g) : dMth "index" (.list ((Gs.map (ratP rs cs)).map gT)) [gT (ratP rs cs g)] = .ok (.int (i : Int)) := by
  have s1 := shaped_gT (ratP rs cs g)
  have s2 := shaped_gears (Gs.map (ratP rs cs))
  have f : ((Gs.map (ratP rs cs)).map gT).findIdx? (fun y => PyData.eqv y (gT (ratP rs cs g))) = some i := by
    rw [List.map_map, List.findIdx?_map]
    rw [List.findIdx?_eq_some_iff_getElem]
    obtain ⟨hl, e⟩ := List.getElem?_eq_some_iff.mp hi
    refine ⟨hl, ?_, fun j hj => ?_⟩
    · simp only [Function.comp, eqv_gT, decide_eq_true_eq, e]
      exact (ratP_eq d (hG.ins h (List.mem_of_getElem? hi)) hg).mpr hv
    · simp only [Function.comp, eqv_gT, decide_eq_true_eq, Bool.not_eq_true, decide_eq_false_iff_not]
      intro hh
      have jm : Gs[j] ∈ Gs := List.getElem_mem _
      have e2 := (ratP_eq d (hG.ins _ jm) hg).mp hh
      have lt := List.pairwise_iff_getElem.mp hG.asc j i (by omega) hl hj
      rw [e] at lt
      omega
  unfold dMth
  simp only
  rw [if_pos trivial, if_pos ⟨s1, s2⟩, f]
inductive P_higher_gear : List PyData → Res PyData → Prop
  | mk (rs cs : List Int) (g : Int × Int) (r : PyData) (d : Drawn rs cs) (hg : inG rs cs g) (hr : NextR rs cs g 1 r) : P_higher_gear [bk rs cs, gT g] (.ok r)
inductive P_lower_gear : List PyData → Res PyData → Prop
  | mk (rs cs : List Int) (g : Int × Int) (r : PyData) (d : Drawn rs cs) (hg : inG rs cs g) (hr : NextR rs cs g (-1) r) : P_lower_gear [bk rs cs, gT g] (.ok r)
theorem nst_exists {rs cs : List Int} (g : Int × Int) {h : Int × Int} (hh : inG rs cs h) : ∃ m, IsNst rs cs g (vG rs cs h) m := by
  obtain ⟨m, hm, _⟩ := min_near (rs := rs) (cs := cs) (g := g) (v := vG rs cs h) (qs := (gearsL rs.length cs.length).filter fun q => decide (vG rs cs q = vG rs cs h)) (fun q => by rw [List.mem_filter, mem_gearsL, decide_eq_true_eq]; rfl) (fun e => by
    have : h ∈ (gearsL rs.length cs.length).filter fun q => decide (vG rs cs q = vG rs cs h) := by rw [List.mem_filter, mem_gearsL, decide_eq_true_eq]; exact ⟨hh, rfl⟩
    rw [e] at this
    cases this)
  exact ⟨m, hm⟩
theorem asc_lt {rs cs : List Int} {Gs : List (Int × Int)} (hG : IsLad rs cs Gs) {i j : Nat} {a b : Int × Int} (ha : Gs[i]? = some a) (hb : Gs[j]? = some b) (h : vG rs cs a < vG rs cs b) : i < j := by
  obtain ⟨ia, ea⟩ := List.getElem?_eq_some_iff.mp ha
  obtain ⟨jb, eb⟩ := List.getElem?_eq_some_iff.mp hb
  apply Classical.byContradiction
  intro hn
  by_cases e : i = j
  · subst e; rw [ea] at eb; subst eb; omega
  · have := List.pairwise_iff_getElem.mp hG.asc j i jb ia (by omega)
    rw [ea, eb] at this
    omega
theorem asc_lt' {rs cs : List Int} {Gs : List (Int × Int)} (hG : IsLad rs cs Gs) {i j : Nat} {a b : Int × Int} (ha : Gs[i]? = some a) (hb : Gs[j]? = some b) (h : i < j) : vG rs cs a < vG rs cs b := by
  obtain ⟨ia, ea⟩ := List.getElem?_eq_some_iff.mp ha
  obtain ⟨jb, eb⟩ := List.getElem?_eq_some_iff.mp hb
  have := List.pairwise_iff_getElem.mp hG.asc i j ia jb h
  rw [ea, eb] at this
  exact this
theorem run_higher_gear (Γ : Tb) (k1 k2 k3 k4 k5 : Nat) (h1 : (Γ k1).run = m_check_bike) (h2 : (Γ k2).run = m_check_gear) (h3 : (Γ k3).run = m_find_ratio) (h4 : At Γ k4 P_find_ladder) (h5 : At Γ k5 P_nearest_gear) : ∀ ds r, P_higher_gear ds r → runB Γ 4 (B_higher_gear k1 k2 k3 k4 k5) ds = r := by
  rintro _ _ ⟨rs, cs, g, r, d, hg, hr⟩
  obtain ⟨Gs, hG, _⟩ := lad_exists d
  have c4 := h4 _ _ (.mk rs cs Gs d hG)
  have c3 := ratio_at h3 (okB_ok d.ok).1 hg
  rw [ratP_D] at c3
  obtain ⟨h, hm, hv⟩ := hG.all g hg
  obtain ⟨i, hi⟩ := List.mem_iff_getElem?.mp hm
  have ix := idx_rat d hG hg hi hv
  have mk : ∀ xs : List PyData, mthK "index" (.list xs) = .ok () := fun xs => rfl
  have ln : ((Gs.map (ratP rs cs)).map gT).length = Gs.length := by rw [List.length_map, List.length_map]
  by_cases q : i + 1 < Gs.length
  · have hb : Gs[i + 1]? = some Gs[i + 1] := List.getElem?_eq_getElem q
    generalize Gs[i + 1] = b at hb
    have bm := List.mem_of_getElem? hb
    have bin := hG.ins b bm
    obtain ⟨m, hmn⟩ := nst_exists g bin
    have lt := asc_lt' hG hi hb (by omega)
    have hr' : NextR rs cs g 1 (gT m) := .some b m bin (by omega) (fun q' hq' h' => by
      obtain ⟨x, hx, ex⟩ := hG.all q' hq'
      obtain ⟨j, hj⟩ := List.mem_iff_getElem?.mp hx
      have l1 := asc_lt hG hi hj (by omega)
      by_cases e : j = i + 1
      · subst e; rw [hb] at hj; cases hj; omega
      · have := asc_lt' hG hb hj (by omega)
        omega) hmn
    have er := hr.uniq (.inl rfl) hr'
    subst er
    have c5 := h5 _ _ (.mk rs cs g b m d bin hmn)
    have ib : dIx (.list ((Gs.map (ratP rs cs)).map gT)) (.int ((i : Int) + 1)) = .ok (gT (ratP rs cs b)) := dIx_nn (by omega) (by
      have e : ((i : Int) + 1).toNat = i + 1 := by omega
      rw [e]
      simp [hb])
    have qi : (i : Int) + 1 < Gs.length := by omega
    generalize (Gs.map (ratP rs cs)).map gT = L at *
    simp [runB, startV, B_higher_gear, check_bike_at h1 d.ok, check_gear_at h2 hg, c4, c3, mk, ix, ln, qi, ib, c5]
  · have hr' : NextR rs cs g 1 .none := .none fun q' hq' h' => by
      obtain ⟨x, hx, ex⟩ := hG.all q' hq'
      obtain ⟨j, hj⟩ := List.mem_iff_getElem?.mp hx
      have l1 := asc_lt hG hi hj (by omega)
      obtain ⟨hl, _⟩ := List.getElem?_eq_some_iff.mp hj
      omega
    have er := hr.uniq (.inl rfl) hr'
    subst er
    have qi : ¬ (i : Int) + 1 < Gs.length := by omega
    generalize (Gs.map (ratP rs cs)).map gT = L at *
    simp [runB, startV, B_higher_gear, check_bike_at h1 d.ok, check_gear_at h2 hg, c4, c3, mk, ix, ln, qi]
theorem run_lower_gear (Γ : Tb) (k1 k2 k3 k4 k5 : Nat) (h1 : (Γ k1).run = m_check_bike) (h2 : (Γ k2).run = m_check_gear) (h3 : (Γ k3).run = m_find_ratio) (h4 : At Γ k4 P_find_ladder) (h5 : At Γ k5 P_nearest_gear) : ∀ ds r, P_lower_gear ds r → runB Γ 4 (B_lower_gear k1 k2 k3 k4 k5) ds = r := by
  rintro _ _ ⟨rs, cs, g, r, d, hg, hr⟩
  obtain ⟨Gs, hG, _⟩ := lad_exists d
  have c4 := h4 _ _ (.mk rs cs Gs d hG)
  have c3 := ratio_at h3 (okB_ok d.ok).1 hg
  rw [ratP_D] at c3
  obtain ⟨h, hm, hv⟩ := hG.all g hg
  obtain ⟨i, hi⟩ := List.mem_iff_getElem?.mp hm
  have ix := idx_rat d hG hg hi hv
  have mk : ∀ xs : List PyData, mthK "index" (.list xs) = .ok () := fun xs => rfl
  by_cases q : 1 ≤ i
  · have il : i - 1 < Gs.length := by have := (List.getElem?_eq_some_iff.mp hi).1; omega
    have hb : Gs[i - 1]? = some Gs[i - 1] := List.getElem?_eq_getElem il
    generalize Gs[i - 1] = b at hb
    have bm := List.mem_of_getElem? hb
    have bin := hG.ins b bm
    obtain ⟨m, hmn⟩ := nst_exists g bin
    have lt := asc_lt' hG hb hi (by omega)
    have hr' : NextR rs cs g (-1) (gT m) := .some b m bin (by omega) (fun q' hq' h' => by
      obtain ⟨x, hx, ex⟩ := hG.all q' hq'
      obtain ⟨j, hj⟩ := List.mem_iff_getElem?.mp hx
      have l1 := asc_lt hG hj hi (by omega)
      by_cases e : j = i - 1
      · subst e; rw [hb] at hj; cases hj; omega
      · have := asc_lt' hG hj hb (by omega)
        omega) hmn
    have er := hr.uniq (.inr rfl) hr'
    subst er
    have c5 := h5 _ _ (.mk rs cs g b m d bin hmn)
    have ib : dIx (.list ((Gs.map (ratP rs cs)).map gT)) (.int ((i : Int) - 1)) = .ok (gT (ratP rs cs b)) := dIx_nn (by omega) (by
      have e : ((i : Int) - 1).toNat = i - 1 := by omega
      rw [e]
      simp [hb])
    have qi : 0 ≤ (i : Int) - 1 := by omega
    obtain ⟨z, hz⟩ : ∃ z, z = (i : Int) - 1 := ⟨_, rfl⟩
    rw [← hz] at ib qi
    generalize (Gs.map (ratP rs cs)).map gT = L at *
    simp [runB, startV, B_lower_gear, check_bike_at h1 d.ok, check_gear_at h2 hg, c4, c3, mk, ix, ← hz, qi, ib, c5]
  · have hr' : NextR rs cs g (-1) .none := .none fun q' hq' h' => by
      obtain ⟨x, hx, ex⟩ := hG.all q' hq'
      obtain ⟨j, hj⟩ := List.mem_iff_getElem?.mp hx
      have l1 := asc_lt hG hj hi (by omega)
      omega
    have er := hr.uniq (.inr rfl) hr'
    subst er
    have i0 : i = 0 := by omega
    subst i0
    generalize (Gs.map (ratP rs cs)).map gT = L at *
    simp [runB, startV, B_lower_gear, check_bike_at h1 d.ok, check_gear_at h2 hg, c4, c3, mk, ix]

end Cg

set_option maxHeartbeats 1000000
namespace Cg
open PySem PySem.Spec PyProof.Rows L2
/-! ### 55. what is picked -/
def loopQ : Nat → Int → Int → Int × Int
  | 0, r, t => (r, t)
  | n + 1, r, t => if 0 < r ∧ 0 < t then loopQ n (r / 840) (t - 1) else (r, t)
def cellF (ns : List Int) (k : Int) : Int := if ns = [] then 0 else at' ns (k % ns.length)
def mixF (c k : Int) : Int := (c * 31 + 6151 * (k + 1)) * 40692 % 2147483399
def pickF (ns : List Int) (k many : Int) : Int :=
  let q := loopQ 1000 (cellF ns k / 1000000000000000000) (k / mxI ns.length 1)
  if 0 < q.1 then q.1 % 840 % many else (mixF (cellF ns k) k * mixF (cellF ns k) k + mixF (cellF ns k) k / 31) % 2147483629 % many
theorem pickF_ok {ns : List Int} {k many : Int} (h : 0 < many) : 0 ≤ pickF ns k many ∧ pickF ns k many < many := by
  unfold pickF
  simp only
  split
  · exact ⟨Int.emod_nonneg _ (by omega), Int.emod_lt_of_pos _ h⟩
  · exact ⟨Int.emod_nonneg _ (by omega), Int.emod_lt_of_pos _ h⟩
theorem whl_pick (Γ : Tb) (s0 s1 s2 s3 s4 : Option Sl) : ∀ (n : Nat) (r t : Int), 0 ≤ t → t ≤ n → whlR (fun e => (evE Γ (.and (.cmp .Gt (.var 5) (.int 0)) (.and1 (.cmp .Gt (.var 6) (.int 0)))) e).bind asB) (fun e => evSs Γ (.cons (.par [5, 6] [(false, (.bin .FloorDiv (.var 5) (.int 840))), (false, (.bin .Sub (.var 6) (.int 1)))]) .nil) e) (n + 1) [s0, s1, s2, s3, s4, some (.v (.int r)), some (.v (.int t))] =
    .ok (.nx [s0, s1, s2, s3, s4, some (.v (.int (loopQ n r t).1)), some (.v (.int (loopQ n r t).2))])
  | 0, r, t, h0, h1 => by
    have e : t = 0 := by omega
    subst e
    by_cases hr : 0 < r <;> exact whl_stop (by simp [hr])
  | n + 1, r, t, h0, h1 => by
    unfold loopQ
    by_cases h : 0 < r ∧ 0 < t
    · rw [if_pos h]
      have d := bn_div r 840 (by decide)
      have ih := whl_pick Γ s0 s1 s2 s3 s4 n (r / 840) (t - 1) (by omega) (by omega)
      rw [← ih]
      exact whl_step (by simp [h]) (by simp [d])
    · rw [if_neg h]
      by_cases hr : 0 < r
      · have ht : ¬ 0 < t := fun z => h ⟨hr, z⟩
        exact whl_stop (by simp [hr, ht])
      · exact whl_stop (by simp [hr])
structure PickFacts (ns : List Int) (k many : Int) : Prop where
  nn : dCmp .NotEq (.list (ns.map .int)) (.list []) = .ok (!ns.isEmpty)
  d2 : dBin .FloorDiv (.int (cellF ns k)) (.int 1000000000000000000) = .ok (.int (cellF ns k / 1000000000000000000))
  d3 : dBin .FloorDiv (.int k) (.int (mxI ns.length 1)) = .ok (.int (k / mxI ns.length 1))
  m1 : dBin .Mult (.int (cellF ns k)) (.int 31) = .ok (.int (cellF ns k * 31))
  m2 : dBin .Mult (.int 6151) (.int (k + 1)) = .ok (.int (6151 * (k + 1)))
  m3 : dBin .Mult (.int (cellF ns k * 31 + 6151 * (k + 1))) (.int 40692) = .ok (.int ((cellF ns k * 31 + 6151 * (k + 1)) * 40692))
  m4 : dBin .Mod (.int ((cellF ns k * 31 + 6151 * (k + 1)) * 40692)) (.int 2147483399) = .ok (.int (mixF (cellF ns k) k))
  m5 : dBin .Mult (.int (mixF (cellF ns k) k)) (.int (mixF (cellF ns k) k)) = .ok (.int (mixF (cellF ns k) k * mixF (cellF ns k) k))
  m6 : dBin .FloorDiv (.int (mixF (cellF ns k) k)) (.int 31) = .ok (.int (mixF (cellF ns k) k / 31))
  m7 : ∀ x, dBin .Mod (.int x) (.int 2147483629) = .ok (.int (x % 2147483629))
  m8 : ∀ x, dBin .Mod (.int x) (.int many) = .ok (.int (x % many))
  m9 : ∀ x, dBin .Mod (.int x) (.int 840) = .ok (.int (x % 840))
theorem pick_facts {ns : List Int} {k many : Int} (hm : 0 < many) (few : ns.length ≤ 63) : PickFacts ns k many := by
  have mx : 0 < mxI ns.length 1 := by unfold mxI; split <;> omega
  have mx2 : mxI ns.length 1 ≤ 64 := by unfold mxI; split <;> omega
  have x0 := Int.emod_nonneg ((cellF ns k * 31 + 6151 * (k + 1)) * 40692) (by decide : (2147483399 : Int) ≠ 0)
  have x1 := Int.emod_lt_of_pos ((cellF ns k * 31 + 6151 * (k + 1)) * 40692) (by decide : (0 : Int) < 2147483399)
  exact {
    nn := ne_nil ns
    d2 := bn_div _ _ div18
    d3 := bn_div _ _ (small_div mx (by omega))
    m1 := bn_mulr _ 31 (smallI_few (by decide) (by decide))
    m2 := bn_mulk 6151 _ (smallI_few (by decide) (by decide))
    m3 := bn_mulr _ 40692 (smallI_few (by decide) (by decide))
    m4 := bn_mod _ _ (by decide)
    m5 := bn_mulk _ _ (smallI_few (by unfold mixF; omega) (by unfold mixF; omega))
    m6 := bn_div _ _ (by decide)
    m7 := fun x => bn_mod x _ (by decide)
    m8 := fun x => bn_mod x _ hm
    m9 := fun x => bn_mod x _ (by decide) }

end Cg

set_option maxHeartbeats 1000000
namespace Cg
open PySem PySem.Spec PyProof.Rows L2
/-! ### 56. drawn rides -/
def N__law_pick : List Str := ["_law_script", "_law_k", "_law_many", "_law_cell", "_law_drawn", "_law_rest", "_law_again"]
def L1__law_pick (fuel : Nat) : S := (.whl fuel (.and (.cmp .Gt (.var 5) (.int 0)) (.and1 (.cmp .Gt (.var 6) (.int 0))))
    (.cons (.par [5, 6] [(false, (.bin .FloorDiv (.var 5) (.int 840))), (false, (.bin .Sub (.var 6) (.int 1)))])
    .nil))
def B__law_pick (fuel : Nat) : Ss := (.cons (.asg 3 (.ife (.cmp .NotEq (.var 0) (.lst .nil)) (.ix (.var 0) (.bin .Mod (.var 1) (.blt .len (.cons (.var 0) .nil)))) (.int 0)))
    (.cons (.par [5, 6] [(false, (.bin .FloorDiv (.var 3) (.bin .Pow (.int 10) (.int 18)))), (false, (.bin .FloorDiv (.var 1) (.blt .max2 (.cons (.blt .len (.cons (.var 0) .nil)) (.cons (.int 1) .nil)))))])
    (.cons (L1__law_pick fuel)
    (.cons (.ife (.cmp .Gt (.var 5) (.int 0))
    (.cons (.ret (.bin .Mod (.bin .Mod (.var 5) (.int 840)) (.var 2)))
    .nil)
    .nil)
    (.cons (.asg 4 (.bin .Mod (.bin .Mult (.bin .Add (.bin .Mult (.var 3) (.int 31)) (.bin .Mult (.int 6151) (.bin .Add (.var 1) (.int 1)))) (.int 40692)) (.int 2147483399)))
    (.cons (.ret (.bin .Mod (.bin .Mod (.bin .Add (.bin .Mult (.var 4) (.var 4)) (.bin .FloorDiv (.var 4) (.int 31))) (.int 2147483629)) (.var 2)))
    .nil))))))
def N__law_ride : List Str := ["_law_script", "_law_at", "_law_part_here", "_law_front", "_law_back", "_law_k"]
def E1__law_ride (k__law_pick : Nat) : C := (.lc (.bin .Mult (.var 2) (.bin .Add (.bin .FloorDiv (.int 20) (.var 2)) (.call k__law_pick (.cons (.var 0) (.cons (.bin .Add (.bin .Add (.var 1) (.int 2)) (.var 5)) (.cons (.int 8) .nil)))))) (.one 5) (.rng1 (.bin .Add (.int 1) (.call k__law_pick (.cons (.var 0) (.cons (.bin .Add (.var 1) (.int 1)) (.cons (.int 3) .nil)))))) [("_law_k", 5)])
def E2__law_ride (k__law_pick : Nat) : C := (.lc (.bin .Mult (.var 2) (.bin .Add (.bin .Add (.bin .FloorDiv (.int 10) (.var 2)) (.int 1)) (.call k__law_pick (.cons (.var 0) (.cons (.bin .Add (.bin .Add (.var 1) (.int 7)) (.var 5)) (.cons (.int 8) .nil)))))) (.one 5) (.rng1 (.bin .Add (.int 1) (.call k__law_pick (.cons (.var 0) (.cons (.bin .Add (.var 1) (.int 6)) (.cons (.int 6) .nil)))))) [("_law_k", 5)])
def B__law_ride (k__law_pick : Nat) : Ss := (.cons (.asg 2 (.ix (.tup (.cons (.int 1) (.cons (.int 2) (.cons (.int 4) (.cons (.int 5) .nil))))) (.call k__law_pick (.cons (.var 0) (.cons (.var 1) (.cons (.int 4) .nil))))))
    (.cons (.asg 3 (E1__law_ride k__law_pick))
    (.cons (.asg 4 (E2__law_ride k__law_pick))
    (.cons (.ret (.tup (.cons (.blt .tuple (.cons (.sset (.var 3)) .nil)) (.cons (.blt .tuple (.cons (.sset (.var 4)) .nil)) .nil))))
    .nil))))
inductive P__law_pick : List PyData → Res PyData → Prop
  | mk (ns : List Int) (k many : Int) (few : ns.length ≤ 63) (h0 : 0 ≤ k) (h1 : k ≤ 900) (hm : 0 < many) : P__law_pick [.list (ns.map .int), .int k, .int many] (.ok (.int (pickF ns k many)))
theorem run__law_pick (Γ : Tb) : ∀ ds r, P__law_pick ds r → runB Γ 7 (B__law_pick 1001) ds = r := by
  rintro _ _ ⟨ns, k, many, few, h0, h1, hm⟩
  have mxx : ∀ i j, dBlt .max2 [.int i, .int j] = .ok (.int (mxI i j)) := fun i j => rfl
  obtain ⟨nn, d2, d3, m1, m2, m3, m4, m5, m6, m7, m8, m9⟩ := pick_facts (k := k) hm few
  have mx : 0 < mxI ns.length 1 := by unfold mxI; split <;> omega
  have t0 : 0 ≤ k / mxI ns.length 1 := Int.ediv_nonneg h0 (by omega)
  have t1 : k / mxI ns.length 1 ≤ 1000 := by have := Int.ediv_le_self (mxI ns.length 1) h0; omega
  have w : ∀ s0 s1 s2 s3 s4, evS Γ (L1__law_pick 1001) [s0, s1, s2, s3, s4, some (.v (.int (cellF ns k / 1000000000000000000))), some (.v (.int (k / mxI ns.length 1)))] = _ := fun s0 s1 s2 s3 s4 => (ts_whl Γ _ _ _ _).trans (whl_pick Γ s0 s1 s2 s3 s4 1000 (cellF ns k / 1000000000000000000) (k / mxI ns.length 1) t0 t1)
  have c0 : evE Γ (.ife (.cmp .NotEq (.var 0) (.lst .nil)) (.ix (.var 0) (.bin .Mod (.var 1) (.blt .len (.cons (.var 0) .nil)))) (.int 0)) [some (.v (.list (ns.map .int))), some (.v (.int k)), some (.v (.int many)), none, none, none, none] = .ok (.int (cellF ns k)) := by
    unfold cellF
    by_cases hn : ns = []
    · subst hn
      rw [if_pos rfl]
      simp only [List.map_nil, List.isEmpty_nil] at nn ⊢
      simp [nn]
    · rw [if_neg hn]
      have hl : 0 < (ns.length : Int) := by
        have := List.length_pos_iff.mpr hn
        omega
      have e : ns.isEmpty = false := by cases ns <;> simp at hn ⊢
      rw [e] at nn
      have dm := bn_mod k ns.length hl
      have x1 := dIx_list (xs := ns) (Int.emod_nonneg k (by omega : (ns.length : Int) ≠ 0)) (Int.emod_lt_of_pos k hl)
      simp [nn, dm, x1]
  unfold pickF
  simp only
  generalize hq : loopQ 1000 (cellF ns k / 1000000000000000000) (k / mxI ns.length 1) = q at w
  generalize hB : C.ife (.cmp .NotEq (.var 0) (.lst .nil)) (.ix (.var 0) (.bin .Mod (.var 1) (.blt .len (.cons (.var 0) .nil)))) (.int 0) = X at c0
  by_cases h : 0 < q.1
  · rw [if_pos h]
    simp [runB, startV, B__law_pick, hB, c0, pow18, d2, mxx, d3, w, h, m8, m9]
  · rw [if_neg h]
    simp [runB, startV, B__law_pick, hB, c0, pow18, d2, mxx, d3, w, h, m1, m2, m3, m4, m5, m6, m7, m8]
/-- the drawn ride -/
def partF (ns : List Int) (a : Int) : Int := at' [1, 2, 4, 5] (pickF ns a 4)
def frontF (ns : List Int) (a : Int) : List Int := (List.range (1 + pickF ns (a + 1) 3).toNat).map fun (k : Nat) => partF ns a * (20 / partF ns a + pickF ns (a + 2 + (k : Int)) 8)
def backF (ns : List Int) (a : Int) : List Int := (List.range (1 + pickF ns (a + 6) 6).toNat).map fun (k : Nat) => partF ns a * (10 / partF ns a + 1 + pickF ns (a + 7 + (k : Int)) 8)
def rideR (ns : List Int) (a : Int) : List Int := ssetI (frontF ns a)
def rideC (ns : List Int) (a : Int) : List Int := ssetI (backF ns a)
theorem partF_ok (ns : List Int) (a : Int) : partF ns a = 1 ∨ partF ns a = 2 ∨ partF ns a = 4 ∨ partF ns a = 5 := by
  have b := pickF_ok (ns := ns) (k := a) (many := 4) (by decide)
  unfold partF
  have : pickF ns a 4 = 0 ∨ pickF ns a 4 = 1 ∨ pickF ns a 4 = 2 ∨ pickF ns a 4 = 3 := by omega
  rcases this with h | h | h | h <;> rw [h]
  · exact .inl rfl
  · exact .inr (.inl rfl)
  · exact .inr (.inr (.inl rfl))
  · exact .inr (.inr (.inr rfl))
theorem front_ok (ns : List Int) (a : Int) : 1 ≤ (frontF ns a).length ∧ (frontF ns a).length ≤ 3 ∧ ∀ x ∈ frontF ns a, 10 ≤ x ∧ x ≤ 60 := by
  have b := pickF_ok (ns := ns) (k := a + 1) (many := 3) (by decide)
  unfold frontF
  refine ⟨by rw [List.length_map, List.length_range]; omega, by rw [List.length_map, List.length_range]; omega, fun x hx => ?_⟩
  obtain ⟨k, _, rfl⟩ := List.mem_map.mp hx
  have c := pickF_ok (ns := ns) (k := a + 2 + (k : Int)) (many := 8) (by decide)
  rcases partF_ok ns a with h | h | h | h <;> rw [h] <;> omega
theorem back_ok (ns : List Int) (a : Int) : 1 ≤ (backF ns a).length ∧ (backF ns a).length ≤ 6 ∧ ∀ x ∈ backF ns a, 8 ≤ x ∧ x ≤ 50 := by
  have b := pickF_ok (ns := ns) (k := a + 6) (many := 6) (by decide)
  unfold backF
  refine ⟨by rw [List.length_map, List.length_range]; omega, by rw [List.length_map, List.length_range]; omega, fun x hx => ?_⟩
  obtain ⟨k, _, rfl⟩ := List.mem_map.mp hx
  have c := pickF_ok (ns := ns) (k := a + 7 + (k : Int)) (many := 8) (by decide)
  rcases partF_ok ns a with h | h | h | h <;> rw [h] <;> omega
theorem ride_drawn (ns : List Int) (a : Int) : Drawn (rideR ns a) (rideC ns a) := by
  obtain ⟨f1, f2, f3⟩ := front_ok ns a
  obtain ⟨b1, b2, b3⟩ := back_ok ns a
  obtain ⟨s1, s2, s3⟩ := ssetI_ok (frontF ns a)
  obtain ⟨t1, t2, t3⟩ := ssetI_ok (backF ns a)
  exact ⟨sset_pos f1, by unfold rideR; omega, fun x hx => f3 x ((s2 x).mp hx), s3, sset_pos b1, by unfold rideC; omega, fun x hx => b3 x ((t2 x).mp hx), t3⟩
theorem ride6 (ns : List Int) (a : Int) : (rideC ns a).length ≤ 6 := by
  have := (ssetI_ok (backF ns a)).1
  have := (back_ok ns a).2.1
  unfold rideC
  omega
inductive P__law_ride : List PyData → Res PyData → Prop
  | mk (ns : List Int) (a : Int) (few : ns.length ≤ 63) (h0 : 0 ≤ a) (h1 : a ≤ 800) : P__law_ride [.list (ns.map .int), .int a] (.ok (bk (rideR ns a) (rideC ns a)))
theorem run__law_ride (Γ : Tb) (k1 : Nat) (h1 : At Γ k1 P__law_pick) : ∀ ds r, P__law_ride ds r → runB Γ 6 (B__law_ride k1) ds = r := by
  rintro _ _ ⟨ns, a, few, h0, hh1⟩
  have dr : ∀ (a m : Int), 0 ≤ a → a ≤ 900 → 0 < m → (Γ k1).run [.list (ns.map .int), .int a, .int m] = .ok (.int (pickF ns a m)) := fun a m ha hb hm => h1 _ _ (.mk ns a m few ha hb hm)
  have e0 := dr a 4 h0 (by omega) (by decide)
  have b0 := pickF_ok (ns := ns) (k := a) (many := 4) (by decide)
  have i0 : dIx (.tuple [.int 1, .int 2, .int 4, .int 5]) (.int (pickF ns a 4)) = .ok (.int (partF ns a)) := dIx_int (xs := [1, 2, 4, 5]) b0.1 (by exact b0.2)
  have pp := partF_ok ns a
  have E1 : ∀ s4 s3, evE Γ (E1__law_ride k1) [some (.v (.list (ns.map .int))), some (.v (.int a)), some (.v (.int (partF ns a))), s3, s4, none] = .ok (.list ((frontF ns a).map .int)) := fun s4 s3 => by
    unfold frontF
    have e1 := dr (a + 1) 3 (by omega) (by omega) (by decide)
    have b1 := pickF_ok (ns := ns) (k := a + 1) (many := 3) (by decide)
    rw [List.map_map]
    refine lc_enc (fun (k : Nat) => PyData.int (k : Int)) (g := fun (k : Nat) => PyData.int (partF ns a * (20 / partF ns a + pickF ns (a + 2 + (k : Int)) 8))) ?_ (fun k hk => ?_) (by rw [List.length_range]; omega)
    · have s := small62_few (n := 1 + pickF ns (a + 1) 3) (by omega) (by omega)
      have e : (((1 + pickF ns (a + 1) 3).toNat : Nat) : Int) = 1 + pickF ns (a + 1) 3 := by omega
      have := rangeD_map (1 + pickF ns (a + 1) 3).toNat
      rw [e] at this
      simp [e1, s, this]
    · rw [List.mem_range] at hk
      have e2 := dr (a + 2 + (k : Int)) 8 (by omega) (by omega) (by decide)
      have d1 := bn_div 20 (partF ns a) (small_div (by omega) (by omega))
      have m1 := bn_mulk (partF ns a) (20 / partF ns a + pickF ns (a + 2 + (k : Int)) 8) (smallI_few (by omega) (by omega))
      simp [e2, d1, m1]
  have E2 : ∀ s3 s4, evE Γ (E2__law_ride k1) [some (.v (.list (ns.map .int))), some (.v (.int a)), some (.v (.int (partF ns a))), s3, s4, none] = .ok (.list ((backF ns a).map .int)) := fun s3 s4 => by
    unfold backF
    have e1 := dr (a + 6) 6 (by omega) (by omega) (by decide)
    have b1 := pickF_ok (ns := ns) (k := a + 6) (many := 6) (by decide)
    rw [List.map_map]
    refine lc_enc (fun (k : Nat) => PyData.int (k : Int)) (g := fun (k : Nat) => PyData.int (partF ns a * (10 / partF ns a + 1 + pickF ns (a + 7 + (k : Int)) 8))) ?_ (fun k hk => ?_) (by rw [List.length_range]; omega)
    · have s := small62_few (n := 1 + pickF ns (a + 6) 6) (by omega) (by omega)
      have e : (((1 + pickF ns (a + 6) 6).toNat : Nat) : Int) = 1 + pickF ns (a + 6) 6 := by omega
      have := rangeD_map (1 + pickF ns (a + 6) 6).toNat
      rw [e] at this
      simp [e1, s, this]
    · rw [List.mem_range] at hk
      have e2 := dr (a + 7 + (k : Int)) 8 (by omega) (by omega) (by decide)
      have d1 := bn_div 10 (partF ns a) (small_div (by omega) (by omega))
      have m1 := bn_mulk (partF ns a) (10 / partF ns a + 1 + pickF ns (a + 7 + (k : Int)) 8) (smallI_few (by omega) (by omega))
      simp [e2, d1, m1]
  have s1 := sset_ints (frontF ns a) (by have := (front_ok ns a).2.1; omega)
  have s2 := sset_ints (backF ns a) (by have := (back_ok ns a).2.1; omega)
  have tp : ∀ xs, dBlt .tuple [.list xs] = .ok (.tuple xs) := fun xs => rfl
  unfold rideR rideC
  generalize frontF ns a = F at *
  generalize backF ns a = B at *
  simp [runB, startV, B__law_ride, e0, i0, E1, E2, s1, s2, tp, bk]
/-- fractions in lowest terms -/
theorem foldl_max_eq : ∀ (ns : List Int) (n m : Int), (∀ x ∈ n :: ns, x ≤ m) → m ∈ n :: ns → ns.foldl max n = m
  | [], n, m, _, h2 => by simp at h2; exact h2.symm
  | k :: ns, n, m, h1, h2 => by
    rw [List.foldl_cons]
    refine foldl_max_eq ns (max n k) m (fun x hx => ?_) ?_
    · rcases List.mem_cons.mp hx with rfl | hx
      · exact Int.max_le.mpr ⟨h1 n (by simp), h1 k (by simp)⟩
      · exact h1 x (by simp [hx])
    · rcases List.mem_cons.mp h2 with rfl | h2
      · have := h1 k (by simp)
        rw [Int.max_eq_left this]
        exact List.mem_cons_self
      · rcases List.mem_cons.mp h2 with rfl | h2
        · have := h1 n (by simp)
          rw [Int.max_eq_right this]
          exact List.mem_cons_self
        · exact List.mem_cons_of_mem _ h2
theorem max_ints {ns : List Int} {m : Int} (h1 : ∀ x ∈ ns, x ≤ m) (h2 : m ∈ ns) : dBlt .maxL [.list (ns.map PyData.int)] = .ok (.int m) := by
  cases ns with
  | nil => cases h2
  | cons n ns =>
    show (match allI ((n :: ns).map PyData.int) with
      | some (n :: ns) => Res.ok (PyData.int (ns.foldl max n))
      | _ => .no) = _
    rw [allI_of]
    show Res.ok (PyData.int (ns.foldl max n)) = _
    rw [foldl_max_eq ns n m h1 h2]
inductive P__law_part : List PyData → Res PyData → Prop
  | mk (a b : Int) (a0 : 1 ≤ a) (a1 : a ≤ 5000) (b0 : 1 ≤ b) (b1 : b ≤ 5000) : P__law_part [.int a, .int b] (.ok (gT (redP (a, b))))
theorem run__law_part (Γ : Tb) : ∀ ds r, P__law_part ds r → runB Γ 4 B__law_part ds = r := by
  rintro _ _ ⟨a, b, a0, a1, b0, b1⟩
  have mn : ∀ i j, dBlt .min2 [.int i, .int j] = .ok (.int (mnI i j)) := fun i j => rfl
  have m1 : 1 ≤ mnI a b ∧ mnI a b ≤ 5000 ∧ mnI a b ≤ a ∧ mnI a b ≤ b := by unfold mnI; split <;> omega
  have E1 : evE Γ E1__law_part [some (.v (.int a)), some (.v (.int b)), none, none] = .ok (.list ((((List.range (mnI a b).toNat).filter fun (k : Nat) => decide (a % (1 + (k : Int)) = 0) && decide (b % (1 + (k : Int)) = 0)).map fun (k : Nat) => 1 + (k : Int)).map .int)) := by
    rw [List.map_map]
    refine lcf_enc (fun (k : Nat) => PyData.int (1 + (k : Int))) (q := fun (k : Nat) => decide (a % (1 + (k : Int)) = 0) && decide (b % (1 + (k : Int)) = 0)) (g := fun (k : Nat) => PyData.int (1 + (k : Int))) ?_ (fun k hk => ?_) (fun k hk _ => by simp) (by rw [List.length_range]; omega)
    · have s1 := small62_few (n := 1) (by decide) (by decide)
      have s2 := small62_few (n := mnI a b + 1) (by omega) (by omega)
      have r : rangeD 1 (mnI a b + 1) = (List.range (mnI a b).toNat).map fun (k : Nat) => PyData.int (1 + (k : Int)) := by
        unfold rangeD
        have e : mnI a b + 1 - 1 = mnI a b := by omega
        rw [e]
      simp [mn, s1, s2, r]
    · have d1 := bn_mod a (1 + (k : Int)) (by omega)
      have d2 := bn_mod b (1 + (k : Int)) (by omega)
      by_cases q : a % (1 + (k : Int)) = 0
      · simp [d1, d2, q]
      · simp [d1, d2, q]
  have g0 : 0 < Int.gcd a b := Int.gcd_pos_of_ne_zero_right a (by omega)
  have ga : (Int.gcd a b : Int) ∣ a := Int.gcd_dvd_left a b
  have gb : (Int.gcd a b : Int) ∣ b := Int.gcd_dvd_right a b
  have la := Int.le_of_dvd (by omega) ga
  have lb := Int.le_of_dvd (by omega) gb
  have gm : (Int.gcd a b : Int) ≤ mnI a b := by unfold mnI; split <;> omega
  have mx := max_ints (ns := ((List.range (mnI a b).toNat).filter fun (k : Nat) => decide (a % (1 + (k : Int)) = 0) && decide (b % (1 + (k : Int)) = 0)).map fun (k : Nat) => 1 + (k : Int)) (m := (Int.gcd a b : Int)) (fun x hx => by
    obtain ⟨k, hk, rfl⟩ := List.mem_map.mp hx
    rw [List.mem_filter, Bool.and_eq_true, decide_eq_true_eq, decide_eq_true_eq] at hk
    have h1 : (1 + (k : Int)) ∣ a := Int.dvd_of_emod_eq_zero hk.2.1
    have h2 : (1 + (k : Int)) ∣ b := Int.dvd_of_emod_eq_zero hk.2.2
    exact Int.le_of_dvd (by omega) (Int.dvd_coe_gcd h1 h2)) (List.mem_map.mpr ⟨Int.gcd a b - 1, by
    have e : (1 : Int) + ((Int.gcd a b - 1 : Nat) : Int) = Int.gcd a b := by omega
    rw [List.mem_filter, Bool.and_eq_true, decide_eq_true_eq, decide_eq_true_eq, List.mem_range, e]
    exact ⟨by omega, Int.emod_eq_zero_of_dvd ga, Int.emod_eq_zero_of_dvd gb⟩, by omega⟩)
  generalize (((List.range (mnI a b).toNat).filter fun (k : Nat) => decide (a % (1 + (k : Int)) = 0) && decide (b % (1 + (k : Int)) = 0)).map fun (k : Nat) => 1 + (k : Int)).map PyData.int = L at *
  have d1 := bn_div a (Int.gcd a b) (small_div (by omega) (by omega))
  have d2 := bn_div b (Int.gcd a b) (small_div (by omega) (by omega))
  simp [runB, startV, B__law_part, E1, mx, d1, d2, redP, gT]

end Cg

set_option maxHeartbeats 1000000
namespace Cg
open PySem PySem.Spec PyProof.Rows L2
/-! ### 57. tables and rising ratios -/
def tabKV (rs cs : List Int) (gs : List (Int × Int)) : List (PyData × PyData) := gs.map fun g => (gT g, gT (ratP rs cs g))
theorem kv_fresh {rs cs : List Int} {gs : List (Int × Int)} {g : Int × Int} (h : g ∉ gs) (v : PyData) : kvPut (tabKV rs cs gs) (gT g) v = tabKV rs cs gs ++ [(gT g, v)] := by
  unfold kvPut
  rw [if_neg]
  intro hh
  rw [List.any_eq_true] at hh
  obtain ⟨p, hp, e⟩ := hh
  unfold tabKV at hp
  obtain ⟨q, hq, rfl⟩ := List.mem_map.mp hp
  simp only [eqv_gT, decide_eq_true_eq] at e
  subst e
  exact h hq
inductive P__law_table : List PyData → Res PyData → Prop
  | mk (rs cs : List Int) (d : Drawn rs cs) : P__law_table [bk rs cs] (.ok (.dict (tabKV rs cs (gearsL rs.length cs.length))))
theorem run__law_table (Γ : Tb) (k1 : Nat) (h1 : At Γ k1 P__law_part) : ∀ ds r, P__law_table ds r → runB Γ 4 (B__law_table k1) ds = r := by
  rintro _ _ ⟨rs, cs, d⟩
  have dr2 := d.r2
  have dc2 := d.c2
  have y1 : dIx (bk rs cs) (.int 0) = .ok (.tuple (rs.map .int)) := ix_t0 _ _
  have y2 : dIx (bk rs cs) (.int 1) = .ok (.tuple (cs.map .int)) := ix_t1 _ _ _
  have sr : small62 (rs.length : Int) = true := small62_few (by omega) (by omega)
  have sc : small62 (cs.length : Int) = true := small62_few (by omega) (by omega)
  obtain ⟨_, w2, a2, a3, rfl⟩ : ∃ e', evS Γ (L2__law_table k1) [some (.v (bk rs cs)), some (.d true ([])), none, none] = .ok (.nx e') ∧ ∃ a2 a3, e' = [some (.v (bk rs cs)), some (.d true (tabKV rs cs (gearsL rs.length cs.length))), a2, a3] := by
    have ei : evI Γ (.rng1 (.blt .len (.cons (.ix (.var 0) (.int 0)) .nil))) [some (.v (bk rs cs)), some (.d true ([])), none, none] = .ok (rangeD 0 (rs.length : Int)) := by simp [y1, sr]
    unfold L2__law_table
    rw [ts_for, ei, bind_ok]
    refine for_rng (fun j e => ∃ a2 a3, e = [some (.v (bk rs cs)), some (.d true (tabKV rs cs (gearsL j cs.length))), a2, a3]) rs.length _ ⟨_, _, rfl⟩ ?_
    rintro j _ hj ⟨a2, a3, rfl⟩
    have xj := dIx_int (xs := rs) (i := (j : Int)) (by omega) (by omega)
    obtain ⟨_, w1, b3, rfl⟩ : ∃ e', evS Γ (L1__law_table k1) [some (.v (bk rs cs)), some (.d true (tabKV rs cs (gearsL j cs.length))), some (.v (.int (j : Int))), a3] = .ok (.nx e') ∧ ∃ a3, e' = [some (.v (bk rs cs)), some (.d true (tabKV rs cs (gearsL (j + 1) cs.length))), some (.v (.int (j : Int))), a3] := by
      have ei : evI Γ (.rng1 (.blt .len (.cons (.ix (.var 0) (.int 1)) .nil))) [some (.v (bk rs cs)), some (.d true (tabKV rs cs (gearsL j cs.length))), some (.v (.int (j : Int))), a3] = .ok (rangeD 0 (cs.length : Int)) := by simp [y2, sc]
      unfold L1__law_table
      rw [ts_for, ei, bind_ok]
      rw [gearsL_succ]
      refine for_rng (fun k e => ∃ a3, e = [some (.v (bk rs cs)), some (.d true (tabKV rs cs (gearsL j cs.length ++ (List.range k).map fun (k : Nat) => ((j : Int), (k : Int))))), some (.v (.int (j : Int))), a3]) cs.length _ ⟨_, by simp; rfl⟩ ?_
      rintro k _ hk ⟨a3, rfl⟩
      have hin : inG rs cs ((j : Int), (k : Int)) := ⟨by simp only; omega, by simp only; omega, by simp only; omega, by simp only; omega⟩
      have tq := teeth_in d hin
      simp only at tq
      have xk := dIx_int (xs := cs) (i := (k : Int)) (by omega) (by omega)
      have c := h1 _ _ (.mk (at' rs (j : Int)) (at' cs (k : Int)) (by omega) (by omega) (by omega) (by omega))
      have sp : (gearsL j cs.length ++ (List.range (k + 1)).map fun (k : Nat) => ((j : Int), (k : Int))) = (gearsL j cs.length ++ (List.range k).map fun (k : Nat) => ((j : Int), (k : Int))) ++ [((j : Int), (k : Int))] := by
        rw [List.range_succ, List.map_append, List.append_assoc]
        rfl
      have ln : (gearsL j cs.length ++ (List.range k).map fun (k : Nat) => ((j : Int), (k : Int))).length ≤ 100 := by
        rw [List.length_append, gearsL_len, List.length_map, List.length_range]
        have := Nat.mul_le_mul (by omega : j ≤ 3) dc2
        omega
      have fr : ((j : Int), (k : Int)) ∉ (gearsL j cs.length ++ (List.range k).map fun (k : Nat) => ((j : Int), (k : Int))) := by
        intro h
        rcases List.mem_append.mp h with h | h
        · have := (mem_gearsL.mp h).2.1
          simp only at this
          omega
        · obtain ⟨k', hk', e⟩ := List.mem_map.mp h
          rw [List.mem_range] at hk'
          have := (Prod.mk.inj e).2
          omega
      have pk := kv_fresh (rs := rs) (cs := cs) fr (gT (ratP rs cs ((j : Int), (k : Int))))
      have nx : tabKV rs cs ((gearsL j cs.length ++ (List.range k).map fun (k : Nat) => ((j : Int), (k : Int))) ++ [((j : Int), (k : Int))]) = tabKV rs cs (gearsL j cs.length ++ (List.range k).map fun (k : Nat) => ((j : Int), (k : Int))) ++ [(gT ((j : Int), (k : Int)), gT (ratP rs cs ((j : Int), (k : Int))))] := by
        unfold tabKV
        rw [List.map_append]
        rfl
      have er : redP (at' rs (j : Int), at' cs (k : Int)) = ratP rs cs ((j : Int), (k : Int)) := rfl
      rw [er] at c
      rw [sp, nx]
      have kl : (tabKV rs cs (gearsL j cs.length ++ (List.range k).map fun (k : Nat) => ((j : Int), (k : Int)))).length < 1000 := by unfold tabKV; rw [List.length_map]; omega
      generalize tabKV rs cs (gearsL j cs.length ++ (List.range k).map fun (k : Nat) => ((j : Int), (k : Int))) = KV at *
      generalize ratP rs cs ((j : Int), (k : Int)) = R at *
      have gt : gT ((j : Int), (k : Int)) = .tuple [.int (j : Int), .int (k : Int)] := rfl
      rw [gt] at pk ⊢
      have kt : isKeyT (.tuple [.int (j : Int), .int (k : Int)]) = true := rfl
      exact ⟨_, by simp [y1, y2, xj, xk, c, kl, kt, pk]; rfl, _, rfl⟩
    exact ⟨_, by simp [w1]; exact ⟨rfl, rfl⟩, _, _, rfl⟩
  simp [runB, startV, B__law_table, w2]
theorem find_self : ∀ {gs : List (Int × Int)} {g : Int × Int}, g ∈ gs → gs.find? (fun q => decide (q = g)) = some g
  | x :: xs, g, h => by
    rw [List.find?_cons]
    by_cases q : x = g
    · simp [q]
    · rw [decide_eq_false q]
      exact find_self ((List.mem_cons.mp h).resolve_left fun e => q e.symm)
theorem tab_get {rs cs : List Int} {gs : List (Int × Int)} {g : Int × Int} (h : g ∈ gs) : dIx (.dict (tabKV rs cs gs)) (gT g) = .ok (gT (ratP rs cs g)) := by
  have k1 : keysOk (tabKV rs cs gs) (gT g) = true := by
    unfold keysOk
    have ne : (tabKV rs cs gs).isEmpty = false := by
      unfold tabKV
      cases gs with
      | nil => cases h
      | cons _ _ => rfl
    have al : (tabKV rs cs gs).all (fun p => isKeyT p.1) = true := by
      rw [List.all_eq_true]
      intro p hp
      unfold tabKV at hp
      obtain ⟨q, _, rfl⟩ := List.mem_map.mp hp
      rfl
    have kt : isKeyT (gT g) = true := rfl
    rw [ne, al, kt]
    simp
  have k2 : kvGet (tabKV rs cs gs) (gT g) = some (gT (ratP rs cs g)) := by
    unfold kvGet tabKV
    rw [List.find?_map]
    have e : ((fun p : PyData × PyData => PyData.eqv p.1 (gT g)) ∘ fun g => (gT g, gT (ratP rs cs g))) = fun q => decide (q = g) := by
      funext q
      simp only [Function.comp, eqv_gT]
    rw [e]
    have f := find_self h
    rw [f]
    rfl
  unfold dIx
  simp only
  rw [if_pos k1, k2]
theorem tab_keys (rs cs : List Int) (gs : List (Int × Int)) : (tabKV rs cs gs).map (·.1) = gs.map gT := by
  unfold tabKV
  rw [List.map_map]
  rfl
theorem tab_sorted (rs cs : List Int) (n m : Nat) (h : (gearsL n m).length ≤ 100) : dBlt .sorted [.dict (tabKV rs cs (gearsL n m))] = .ok (.list ((gearsL n m).map gT)) := by
  have al : ((tabKV rs cs (gearsL n m)).all fun p => isKeyT p.1) = true := by
    rw [List.all_eq_true]
    intro p hp
    unfold tabKV at hp
    obtain ⟨q, _, rfl⟩ := List.mem_map.mp hp
    rfl
  have l : (tabKV rs cs (gearsL n m)).length < 1000 := by unfold tabKV; rw [List.length_map]; omega
  show (if ((tabKV rs cs (gearsL n m)).all fun p => isKeyT p.1) = true ∧ (tabKV rs cs (gearsL n m)).length < 1000 then dSorted ((tabKV rs cs (gearsL n m)).map (·.1)) else if ((tabKV rs cs (gearsL n m)).all fun p => isInt p.1) = true ∧ (tabKV rs cs (gearsL n m)).length < 64 then dSorted ((tabKV rs cs (gearsL n m)).map (·.1)) else Res.no) = _
  rw [if_pos ⟨al, l⟩, tab_keys]
  exact sorted_gears (gearsL_sorted n m) (by omega)
/-- ratios compared -/
inductive P__law_less : List PyData → Res PyData → Prop
  | mk (p q : Int × Int) (hp : few32 p.1 = true) (hq : few32 q.1 = true) : P__law_less [gT p, gT q] (.ok (.bool (decide (p.1 * q.2 < q.1 * p.2))))
theorem run__law_less (Γ : Tb) : ∀ ds r, P__law_less ds r → runB Γ 2 B__law_less ds = r := by
  rintro _ _ ⟨p, q, hp, hq⟩
  have x1 : ∀ p, dIx (gT p) (.int 0) = .ok (.int p.1) := fun p => ix_t0 _ _
  have x2 : ∀ p, dIx (gT p) (.int 1) = .ok (.int p.2) := fun p => ix_t1 _ _ _
  have m1 := bn_mulk p.1 q.2 (few32_ok hp)
  have m2 := bn_mulk q.1 p.2 (few32_ok hq)
  simp [runB, startV, B__law_less, x1, x2, m1, m2]
theorem rat_few {rs cs : List Int} (d : Drawn rs cs) {p : Int × Int} (hp : inG rs cs p) : few32 (ratP rs cs p).1 = true := by
  have := ratP_ok d hp
  unfold few32
  simp only [Bool.and_eq_true, decide_eq_true_eq]
  omega
theorem rat_lt {rs cs : List Int} (d : Drawn rs cs) {p q : Int × Int} (hp : inG rs cs p) (hq : inG rs cs q) : (ratP rs cs p).1 * (ratP rs cs q).2 < (ratP rs cs q).1 * (ratP rs cs p).2 ↔ vG rs cs p < vG rs cs q := by
  have tp := teeth_in d hp
  have tq := teeth_in d hq
  obtain ⟨x, y, g, l⟩ := low_of (a := at' rs p.1) (b := at' cs p.2) (by omega)
  obtain ⟨u, v, h, m⟩ := low_of (a := at' rs q.1) (b := at' cs q.2) (by omega)
  have e1 := l.red
  have e2 := m.red
  simp only [redD, PyData.tuple.injEq, List.cons.injEq, PyData.int.injEq, and_true] at e1 e2
  rw [vG_lt d hp hq, ← (cross l m).1]
  unfold ratP redP
  simp only [e1.1, e1.2, e2.1, e2.2]
theorem less_at {Γ : Tb} {k : Nat} (h : At Γ k P__law_less) {rs cs : List Int} (d : Drawn rs cs) {p q : Int × Int} (hp : inG rs cs p) (hq : inG rs cs q) : (Γ k).run [gT (ratP rs cs p), gT (ratP rs cs q)] = .ok (.bool (decide (vG rs cs p < vG rs cs q))) := by
  rw [h _ _ (.mk _ _ (rat_few d hp) (rat_few d hq)), decide_eq_decide.mpr (rat_lt d hp hq)]
/-- one gear for each ratio of some -/
structure IsLadOf (rs cs : List Int) (In Gs : List (Int × Int)) : Prop where
  ins : ∀ g ∈ Gs, g ∈ In
  asc : Gs.Pairwise fun p q => vG rs cs p < vG rs cs q
  all : ∀ g ∈ In, ∃ h ∈ Gs, vG rs cs h = vG rs cs g
theorem IsLadOf.uniq {rs cs : List Int} {In A B : List (Int × Int)} (d : Drawn rs cs) (hI : ∀ g ∈ In, inG rs cs g) (h : IsLadOf rs cs In A) (h' : IsLadOf rs cs In B) : A.map (ratP rs cs) = B.map (ratP rs cs) := by
  refine map_of_map (f := vG rs cs) (fun x hx y hy e => (ratP_eq d (hI x (h.ins x hx)) (hI y (h'.ins y hy))).mpr e) (asc_uniq (List.pairwise_map.mpr h.asc) (List.pairwise_map.mpr h'.asc) fun v => ?_)
  rw [List.mem_map, List.mem_map]
  constructor
  · rintro ⟨g, hg, rfl⟩
    obtain ⟨k, hk, e⟩ := h'.all g (h.ins g hg)
    exact ⟨k, hk, e⟩
  · rintro ⟨g, hg, rfl⟩
    obtain ⟨k, hk, e⟩ := h.all g (h'.ins g hg)
    exact ⟨k, hk, e⟩
/-- fractions of small parts in lowest terms -/
def redW (w : Int × Int) : Prop := 1 ≤ w.1 ∧ w.1 ≤ 1000000 ∧ 1 ≤ w.2 ∧ w.2 ≤ 1000000 ∧ (Int.gcd w.1 w.2 : Int) = 1
def kW (M : Int) (w : Int × Int) : Int := w.1 * (M / w.2)
theorem kW_lt {M : Int} (hM : 0 < M) {a b : Int × Int} (ha : redW a) (hb : redW b) (da : a.2 ∣ M) (db : b.2 ∣ M) : a.1 * b.2 < b.1 * a.2 ↔ kW M a < kW M b := by
  obtain ⟨u, hu⟩ := da
  obtain ⟨v, hv⟩ := db
  have a2 := ha.2.2.1
  have b2 := hb.2.2.1
  have d1 : M / a.2 = u := by rw [hu]; exact Int.mul_ediv_cancel_left _ (by omega)
  have d2 : M / b.2 = v := by rw [hv]; exact Int.mul_ediv_cancel_left _ (by omega)
  unfold kW
  rw [d1, d2]
  have z : 0 < a.2 * b.2 := Int.mul_pos (by omega) (by omega)
  have e1 : a.1 * u * (a.2 * b.2) = a.1 * b.2 * M := by rw [hu]; simp only [Int.mul_assoc, Int.mul_comm, Int.mul_left_comm]
  have e2 : b.1 * v * (a.2 * b.2) = b.1 * a.2 * M := by rw [hv]; simp only [Int.mul_assoc, Int.mul_comm, Int.mul_left_comm]
  have l : a.1 * u < b.1 * v ↔ a.1 * u * (a.2 * b.2) < b.1 * v * (a.2 * b.2) := (Int.mul_lt_mul_right z).symm
  have r : a.1 * b.2 * M < b.1 * a.2 * M ↔ a.1 * b.2 < b.1 * a.2 := Int.mul_lt_mul_right hM
  rw [l, e1, e2, r]
theorem kW_inj {M : Int} (hM : 0 < M) {a b : Int × Int} (ha : redW a) (hb : redW b) (da : a.2 ∣ M) (db : b.2 ∣ M) (e : kW M a = kW M b) : a = b := by
  have h1 := kW_lt hM ha hb da db
  have h2 := kW_lt hM hb ha db da
  have c : a.1 * b.2 = b.1 * a.2 := by omega
  have r : redD a.1 a.2 = redD b.1 b.2 := (red_eq (by have := ha.2.2.1; omega) (by have := hb.2.2.1; omega)).mpr c
  have t : ∀ w : Int × Int, (Int.gcd w.1 w.2 : Int) = 1 → redD w.1 w.2 = gT w := fun w c => by
    unfold redD
    rw [c]
    simp [gT]
  rw [t a ha.2.2.2.2, t b hb.2.2.2.2] at r
  exact gT_inj r
/-- fractions, each once, ascending -/
structure IsRise (ws Ls : List (Int × Int)) : Prop where
  ins : ∀ w ∈ Ls, w ∈ ws
  asc : Ls.Pairwise fun a b => a.1 * b.2 < b.1 * a.2
  all : ∀ w ∈ ws, w ∈ Ls
theorem dens (ws : List (Int × Int)) (h : ∀ w ∈ ws, redW w) : 0 < prodI (ws.map (·.2)) ∧ ∀ w ∈ ws, w.2 ∣ prodI (ws.map (·.2)) := by
  refine ⟨prod_pos _ 1 (by decide) fun x hx => ?_, fun w hw => (prod_dvd _ 1).2 _ (List.mem_map.mpr ⟨w, hw, rfl⟩)⟩
  obtain ⟨w, hw, rfl⟩ := List.mem_map.mp hx
  have := (h w hw).2.2.1
  omega
theorem IsRise.uniq {ws A B : List (Int × Int)} (hW : ∀ w ∈ ws, redW w) (h : IsRise ws A) (h' : IsRise ws B) : A = B := by
  obtain ⟨M0, dv⟩ := dens ws hW
  generalize prodI (ws.map (·.2)) = M at *
  have lt : ∀ {L}, IsRise ws L → (L.map (kW M)).Pairwise (· < ·) := fun {L} hL => List.pairwise_map.mpr (List.Pairwise.imp_of_mem (fun {a b} ha hb hab => (kW_lt M0 (hW a (hL.ins a ha)) (hW b (hL.ins b hb)) (dv a (hL.ins a ha)) (dv b (hL.ins b hb))).mp hab) hL.asc)
  have e := asc_uniq (lt h) (lt h') fun v => by
    rw [List.mem_map, List.mem_map]
    exact ⟨fun ⟨w, hw, e⟩ => ⟨w, h'.all w (h.ins w hw), e⟩, fun ⟨w, hw, e⟩ => ⟨w, h.all w (h'.ins w hw), e⟩⟩
  have := map_of_map (f := kW M) (g := id) (fun x hx y hy e => kW_inj M0 (hW x (h.ins x hx)) (hW y (h'.ins y hy)) (dv x (h.ins x hx)) (dv y (h'.ins y hy)) e) e
  simpa using this
inductive P__law_rising : List PyData → Res PyData → Prop
  | mk (rs cs : List Int) (In Gs : List (Int × Int)) (d : Drawn rs cs) (hI : ∀ g ∈ In, inG rs cs g) (few : In.length ≤ 100) (h : IsLadOf rs cs In Gs) : P__law_rising [.list ((In.map (ratP rs cs)).map gT)] (.ok (.list ((Gs.map (ratP rs cs)).map gT)))
  | gen (ws Ls : List (Int × Int)) (hW : ∀ w ∈ ws, redW w) (few : ws.length ≤ 100) (h : IsRise ws Ls) : P__law_rising [.list (ws.map gT)] (.ok (.list (Ls.map gT)))
theorem asc_split {vf : Int × Int → Int} {x : Int} : ∀ {Gs : List (Int × Int)}, (Gs.Pairwise fun p q => vf p < vf q) → (Gs.filter fun g => decide (vf g < x)) = Gs.take (Gs.filter fun g => decide (vf g < x)).length ∧ ∀ g ∈ Gs.drop (Gs.filter fun g => decide (vf g < x)).length, x ≤ vf g
  | [], _ => by simp
  | g :: Gs, h => by
    obtain ⟨a, b⟩ := List.pairwise_cons.mp h
    obtain ⟨i1, i2⟩ := asc_split (x := x) b
    by_cases q : vf g < x
    · rw [List.filter_cons_of_pos (by simpa using q)]
      refine ⟨?_, fun y hy => ?_⟩
      · rw [List.length_cons, List.take_succ_cons]
        exact congrArg (g :: ·) i1
      · rw [List.length_cons, List.drop_succ_cons] at hy
        exact i2 y hy
    · rw [List.filter_cons_of_neg (by simpa using q)]
      have e : (Gs.filter fun g => decide (vf g < x)) = [] := List.filter_eq_nil_iff.mpr fun y hy => by
        have := a y hy
        simp only [decide_eq_true_eq]
        omega
      rw [e]
      refine ⟨by simp, fun y hy => ?_⟩
      rw [List.length_nil, List.drop_zero] at hy
      rcases List.mem_cons.mp hy with rfl | hy
      · omega
      · have := a y hy
        omega
theorem rising_loop (Γ : Tb) (k1 : Nat) (h1 : At Γ k1 P__law_less) (rs cs : List Int) (In : List (Int × Int)) (d : Drawn rs cs) (hI : ∀ g ∈ In, inG rs cs g) (few : In.length ≤ 100) : ∃ Gs a2 a3 a4, IsLadOf rs cs In Gs ∧ evS Γ (L1__law_rising k1) [some (.v (.list ((In.map (ratP rs cs)).map gT))), some (.v (.list [])), none, none, none] = .ok (.nx [some (.v (.list ((In.map (ratP rs cs)).map gT))), some (.v (.list ((Gs.map (ratP rs cs)).map gT))), a2, a3, a4]) := by
  have ei : evI Γ (.val (.var 0)) [some (.v (.list ((In.map (ratP rs cs)).map gT))), some (.v (.list [])), none, none, none] = .ok (In.map fun g => gT (ratP rs cs g)) := by simp [Function.comp_def]
  unfold L1__law_rising
  rw [ts_for, ei, bind_ok]
  have main := for_doneL (fun g => gT (ratP rs cs g)) (f := fun x e => (bindT (.one 2) x e).bind fun e' => evSs Γ (.cons (.ife (.cmp .NotIn (.var 2) (.var 1))
    (.cons (.asg 3 (.blt .len (.cons (E1__law_rising k1) .nil)))
    (.cons (.asg 1 (.bin .Add (.bin .Add (.slc (.var 1) .none (.some (.var 3))) (.lst (.cons (.var 2) .nil))) (.slc (.var 1) (.some (.var 3)) .none)))
    .nil))
    .nil)
    .nil) e') (fun done e => ∃ Gs a2 a3 a4, e = [some (.v (.list ((In.map (ratP rs cs)).map gT))), some (.v (.list ((Gs.map (ratP rs cs)).map gT))), a2, a3, a4] ∧ IsLadOf rs cs done Gs ∧ Gs.length ≤ done.length) In [some (.v (.list ((In.map (ratP rs cs)).map gT))), some (.v (.list [])), none, none, none] ⟨[], _, _, _, rfl, ⟨by simp, by simp, by simp⟩, by simp⟩ ?_
  · obtain ⟨_, w, Gs, a2, a3, a4, rfl, h, _⟩ := main
    exact ⟨Gs, a2, a3, a4, h, w⟩
  rintro done x rest _ hx ⟨Gs, a2, a3, a4, rfl, h, hl⟩
  have xin := hI x (by rw [hx]; simp)
  have dl : done.length ≤ 100 := by have := congrArg List.length hx; rw [List.length_append, List.length_cons] at this; omega
  have gin : ∀ g ∈ Gs, inG rs cs g := fun g hg => hI g (by rw [hx]; simp [h.ins g hg])
  have ni := notin_gears (ratP rs cs x) (Gs.map (ratP rs cs))
  have em : decide (ratP rs cs x ∈ Gs.map (ratP rs cs)) = decide (∃ g ∈ Gs, vG rs cs g = vG rs cs x) := by
    refine decide_eq_decide.mpr ?_
    rw [List.mem_map]
    constructor
    · rintro ⟨g, hg, e⟩; exact ⟨g, hg, (ratP_eq d (gin g hg) xin).mp e⟩
    · rintro ⟨g, hg, e⟩; exact ⟨g, hg, (ratP_eq d (gin g hg) xin).mpr e⟩
  rw [em] at ni
  generalize hIn : (In.map (ratP rs cs)).map gT = I0
  by_cases q : ∃ g ∈ Gs, vG rs cs g = vG rs cs x
  · rw [decide_eq_true q] at ni
    refine ⟨[some (.v (.list I0)), some (.v (.list ((Gs.map (ratP rs cs)).map gT))), some (.v (gT (ratP rs cs x))), a3, a4], ?_, Gs, _, _, _, rfl, ⟨fun g hg => List.mem_append.mpr (.inl (h.ins g hg)), h.asc, fun g hg => ?_⟩, by simp; omega⟩
    · generalize (Gs.map (ratP rs cs)).map gT = L at *
      simp [ni]
    · rcases List.mem_append.mp hg with hg | hg
      · exact h.all g hg
      · simp at hg
        subst hg
        exact q
  · rw [decide_eq_false q] at ni
    obtain ⟨s1, s2⟩ := asc_split (x := vG rs cs x) h.asc
    obtain ⟨n, hn⟩ : ∃ n, n = (Gs.filter fun g => decide (vG rs cs g < vG rs cs x)).length := ⟨_, rfl⟩
    have E : ∀ s3 s4, evE Γ (E1__law_rising k1) [some (.v (.list I0)), some (.v (.list ((Gs.map (ratP rs cs)).map gT))), some (.v (gT (ratP rs cs x))), s3, s4] = .ok (.list ((Gs.filter fun g => decide (vG rs cs g < vG rs cs x)).map fun g => gT (ratP rs cs g))) := fun s3 s4 => by
      refine lcf_enc (fun g => gT (ratP rs cs g)) (q := fun g => decide (vG rs cs g < vG rs cs x)) (g := fun g => gT (ratP rs cs g)) (by simp [Function.comp_def]) (fun g hg => ?_) (fun g _ _ => by simp) (by omega)
      have c := less_at h1 d (gin g hg) xin
      simp [c]
    have ln : dBlt .len [.list ((Gs.filter fun g => decide (vG rs cs g < vG rs cs x)).map fun g => gT (ratP rs cs g))] = .ok (.int (n : Int)) := by
      show Res.ok (PyData.int _) = _
      rw [List.length_map, hn]
    have nl : n ≤ Gs.length := by rw [hn]; exact List.length_filter_le _ _
    rw [← hn] at s1 s2
    have lt1 : ∀ g ∈ Gs.take n, vG rs cs g < vG rs cs x := fun g hg => by
      rw [← s1, List.mem_filter, decide_eq_true_eq] at hg
      exact hg.2
    have gt1 : ∀ g ∈ Gs.drop n, vG rs cs x < vG rs cs g := fun g hg => by
      have a := s2 g hg
      have b : vG rs cs g ≠ vG rs cs x := fun e => q ⟨g, List.mem_of_mem_drop hg, e⟩
      omega
    have sl1 : dSlc (.list ((Gs.map (ratP rs cs)).map gT)) none (some (n : Int)) = .ok (.list (((Gs.take n).map (ratP rs cs)).map gT)) := by
      have h := cut_head ((Gs.map (ratP rs cs)).map gT) n
      rw [← List.map_take, ← List.map_take] at h
      exact congrArg (fun l => Res.ok (PyData.list l)) h
    have sl2 : dSlc (.list ((Gs.map (ratP rs cs)).map gT)) (some (n : Int)) none = .ok (.list (((Gs.drop n).map (ratP rs cs)).map gT)) := by
      have h := cut_from ((Gs.map (ratP rs cs)).map gT) n
      rw [← List.map_drop, ← List.map_drop] at h
      exact congrArg (fun l => Res.ok (PyData.list l)) h
    have c1 := cat_l (xs := ((Gs.take n).map (ratP rs cs)).map gT) (ys := [gT (ratP rs cs x)]) (by simp; omega)
    have c2 := cat_l (xs := ((Gs.take n).map (ratP rs cs)).map gT ++ [gT (ratP rs cs x)]) (ys := ((Gs.drop n).map (ratP rs cs)).map gT) (by simp; omega)
    have fin : ((Gs.take n ++ [x] ++ Gs.drop n).map (ratP rs cs)).map gT = ((Gs.take n).map (ratP rs cs)).map gT ++ [gT (ratP rs cs x)] ++ ((Gs.drop n).map (ratP rs cs)).map gT := by simp
    refine ⟨[some (.v (.list I0)), some (.v (.list (((Gs.take n ++ [x] ++ Gs.drop n).map (ratP rs cs)).map gT))), some (.v (gT (ratP rs cs x))), some (.v (.int (n : Int))), a4], ?_, Gs.take n ++ [x] ++ Gs.drop n, _, _, _, rfl, ⟨fun g hg => ?_, ?_, fun g hg => ?_⟩, ?_⟩
    · rw [fin]
      generalize ((Gs.take n).map (ratP rs cs)).map gT = T1 at *
      generalize ((Gs.drop n).map (ratP rs cs)).map gT = T2 at *
      generalize (Gs.map (ratP rs cs)).map gT = L at *
      rw [List.append_assoc] at c2 ⊢
      simp [ni, E, ln, sl1, sl2, c1, c2]
    · simp only [List.mem_append, List.mem_singleton] at hg ⊢
      rcases hg with (hg | hg) | hg
      · exact .inl (h.ins g (List.mem_of_mem_take hg))
      · exact .inr hg
      · exact .inl (h.ins g (List.mem_of_mem_drop hg))
    · have p0 := h.asc
      rw [← List.take_append_drop n Gs, List.pairwise_append] at p0
      rw [List.pairwise_append, List.pairwise_append]
      refine ⟨⟨p0.1, by simp, fun a ha b hb => by simp at hb; subst hb; exact lt1 a ha⟩, p0.2.1, fun a ha b hb => ?_⟩
      rcases List.mem_append.mp ha with ha | ha
      · exact p0.2.2 a ha b hb
      · simp at ha
        subst ha
        exact gt1 b hb
    · rcases List.mem_append.mp hg with hg | hg
      · obtain ⟨k, hk, e⟩ := h.all g hg
        rw [← List.take_append_drop n Gs] at hk
        refine ⟨k, ?_, e⟩
        rcases List.mem_append.mp hk with hk | hk <;> simp [hk]
      · simp at hg
        subst hg
        exact ⟨_, by simp, rfl⟩
    · simp
      omega
theorem rise_loop (Γ : Tb) (k1 : Nat) (h1 : At Γ k1 P__law_less) (In : List (Int × Int)) (hW : ∀ w ∈ In, redW w) (few : In.length ≤ 100) : ∃ Gs a2 a3 a4, IsRise In Gs ∧ evS Γ (L1__law_rising k1) [some (.v (.list (In.map gT))), some (.v (.list [])), none, none, none] = .ok (.nx [some (.v (.list (In.map gT))), some (.v (.list (Gs.map gT))), a2, a3, a4]) := by
  obtain ⟨M0, dv⟩ := dens In hW
  generalize prodI (In.map (·.2)) = M at *
  have ei : evI Γ (.val (.var 0)) [some (.v (.list (In.map gT))), some (.v (.list [])), none, none, none] = .ok (In.map gT) := by simp
  unfold L1__law_rising
  rw [ts_for, ei, bind_ok]
  have main := for_doneL gT (f := fun x e => (bindT (.one 2) x e).bind fun e' => evSs Γ (.cons (.ife (.cmp .NotIn (.var 2) (.var 1))
    (.cons (.asg 3 (.blt .len (.cons (E1__law_rising k1) .nil)))
    (.cons (.asg 1 (.bin .Add (.bin .Add (.slc (.var 1) .none (.some (.var 3))) (.lst (.cons (.var 2) .nil))) (.slc (.var 1) (.some (.var 3)) .none)))
    .nil))
    .nil)
    .nil) e') (fun done e => ∃ Gs a2 a3 a4, e = [some (.v (.list (In.map gT))), some (.v (.list (Gs.map gT))), a2, a3, a4] ∧ (∀ g ∈ Gs, g ∈ done) ∧ (Gs.Pairwise fun p q => kW M p < kW M q) ∧ (∀ g ∈ done, g ∈ Gs) ∧ Gs.length ≤ done.length) In [some (.v (.list (In.map gT))), some (.v (.list [])), none, none, none] ⟨[], _, _, _, rfl, by simp, by simp, by simp, by simp⟩ ?_
  · obtain ⟨_, w, Gs, a2, a3, a4, rfl, p1, p2, p3, _⟩ := main
    exact ⟨Gs, a2, a3, a4, ⟨p1, List.Pairwise.imp_of_mem (fun {a b} ha hb hab => (kW_lt M0 (hW a (p1 a ha)) (hW b (p1 b hb)) (dv a (p1 a ha)) (dv b (p1 b hb))).mpr hab) p2, p3⟩, w⟩
  rintro done x rest _ hx ⟨Gs, a2, a3, a4, rfl, p1, p2, p3, hl⟩
  have xm : x ∈ In := by rw [hx]; simp
  have dl : done.length ≤ 100 := by have := congrArg List.length hx; rw [List.length_append, List.length_cons] at this; omega
  have gm : ∀ g ∈ Gs, g ∈ In := fun g hg => by rw [hx]; simp [p1 g hg]
  have ni := notin_gears x Gs
  have lt : ∀ g ∈ Gs, decide (g.1 * x.2 < x.1 * g.2) = decide (kW M g < kW M x) := fun g hg => decide_eq_decide.mpr (kW_lt M0 (hW g (gm g hg)) (hW x xm) (dv g (gm g hg)) (dv x xm))
  have ne : ∀ g ∈ Gs, g ≠ x → kW M g ≠ kW M x := fun g hg h e => h (kW_inj M0 (hW g (gm g hg)) (hW x xm) (dv g (gm g hg)) (dv x xm) e)
  have f32 : ∀ w ∈ In, few32 w.1 = true := fun w hw => by
    obtain ⟨a, b, _⟩ := hW w hw
    unfold few32
    simp only [Bool.and_eq_true, decide_eq_true_eq]
    omega
  generalize hIn : In.map gT = I0
  by_cases q : x ∈ Gs
  · rw [decide_eq_true q] at ni
    refine ⟨[some (.v (.list I0)), some (.v (.list (Gs.map gT))), some (.v (gT x)), a3, a4], ?_, Gs, _, _, _, rfl, fun g hg => List.mem_append.mpr (.inl (p1 g hg)), p2, fun g hg => ?_, by simp; omega⟩
    · generalize Gs.map gT = L at *
      simp [ni]
    · rcases List.mem_append.mp hg with hg | hg
      · exact p3 g hg
      · simp at hg
        subst hg
        exact q
  · rw [decide_eq_false q] at ni
    obtain ⟨s1, s2⟩ := asc_split (vf := kW M) (x := kW M x) p2
    obtain ⟨n, hn⟩ : ∃ n, n = (Gs.filter fun g => decide (kW M g < kW M x)).length := ⟨_, rfl⟩
    have E : ∀ s3 s4, evE Γ (E1__law_rising k1) [some (.v (.list I0)), some (.v (.list (Gs.map gT))), some (.v (gT x)), s3, s4] = .ok (.list ((Gs.filter fun g => decide (kW M g < kW M x)).map gT)) := fun s3 s4 => by
      refine lcf_enc gT (q := fun (g : Int × Int) => decide (kW M g < kW M x)) (g := gT) (by simp) (fun g hg => ?_) (fun g _ _ => by simp) (by omega)
      have c := h1 _ _ (.mk g x (f32 g (gm g hg)) (f32 x xm))
      rw [lt g hg] at c
      simp [c]
    have ln : dBlt .len [.list ((Gs.filter fun g => decide (kW M g < kW M x)).map gT)] = .ok (.int (n : Int)) := by
      show Res.ok (PyData.int _) = _
      rw [List.length_map, hn]
    have nl : n ≤ Gs.length := by rw [hn]; exact List.length_filter_le _ _
    rw [← hn] at s1 s2
    have lt1 : ∀ g ∈ Gs.take n, kW M g < kW M x := fun g hg => by
      rw [← s1, List.mem_filter, decide_eq_true_eq] at hg
      exact hg.2
    have gt1 : ∀ g ∈ Gs.drop n, kW M x < kW M g := fun g hg => by
      have a := s2 g hg
      have gG := List.mem_of_mem_drop hg
      have b := ne g gG fun e => q (e ▸ gG)
      omega
    have sl1 : dSlc (.list (Gs.map gT)) none (some (n : Int)) = .ok (.list ((Gs.take n).map gT)) := by
      have h := cut_head (Gs.map gT) n
      rw [← List.map_take] at h
      exact congrArg (fun l => Res.ok (PyData.list l)) h
    have sl2 : dSlc (.list (Gs.map gT)) (some (n : Int)) none = .ok (.list ((Gs.drop n).map gT)) := by
      have h := cut_from (Gs.map gT) n
      rw [← List.map_drop] at h
      exact congrArg (fun l => Res.ok (PyData.list l)) h
    have c1 := cat_l (xs := (Gs.take n).map gT) (ys := [gT x]) (by simp; omega)
    have c2 := cat_l (xs := (Gs.take n).map gT ++ [gT x]) (ys := (Gs.drop n).map gT) (by simp; omega)
    have fin : (Gs.take n ++ [x] ++ Gs.drop n).map gT = (Gs.take n).map gT ++ [gT x] ++ (Gs.drop n).map gT := by simp
    refine ⟨[some (.v (.list I0)), some (.v (.list ((Gs.take n ++ [x] ++ Gs.drop n).map gT))), some (.v (gT x)), some (.v (.int (n : Int))), a4], ?_, Gs.take n ++ [x] ++ Gs.drop n, _, _, _, rfl, fun g hg => ?_, ?_, fun g hg => ?_, ?_⟩
    · rw [fin]
      generalize (Gs.take n).map gT = T1 at *
      generalize (Gs.drop n).map gT = T2 at *
      generalize Gs.map gT = L at *
      rw [List.append_assoc] at c2 ⊢
      simp [ni, E, ln, sl1, sl2, c1, c2]
    · simp only [List.mem_append, List.mem_singleton] at hg ⊢
      rcases hg with (hg | hg) | hg
      · exact .inl (p1 g (List.mem_of_mem_take hg))
      · exact .inr hg
      · exact .inl (p1 g (List.mem_of_mem_drop hg))
    · have p0 := p2
      rw [← List.take_append_drop n Gs, List.pairwise_append] at p0
      rw [List.pairwise_append, List.pairwise_append]
      refine ⟨⟨p0.1, by simp, fun a ha b hb => by simp at hb; subst hb; exact lt1 a ha⟩, p0.2.1, fun a ha b hb => ?_⟩
      rcases List.mem_append.mp ha with ha | ha
      · exact p0.2.2 a ha b hb
      · simp at ha
        subst ha
        exact gt1 b hb
    · rcases List.mem_append.mp hg with hg | hg
      · have hk := p3 g hg
        rw [← List.take_append_drop n Gs] at hk
        rcases List.mem_append.mp hk with hk | hk <;> simp [hk]
      · simp at hg
        subst hg
        simp
    · simp
      omega
theorem run__law_rising (Γ : Tb) (k1 : Nat) (h1 : At Γ k1 P__law_less) : ∀ ds r, P__law_rising ds r → runB Γ 5 (B__law_rising k1) ds = r := by
  rintro _ _ (⟨rs, cs, In, Gs, d, hI, few, h⟩ | ⟨ws, Ls, hW, few, h⟩)
  · obtain ⟨Hs, a2, a3, a4, hH, w⟩ := rising_loop Γ k1 h1 rs cs In d hI few
    rw [h.uniq d hI hH]
    generalize (In.map (ratP rs cs)).map gT = L0 at *
    generalize (Hs.map (ratP rs cs)).map gT = L1 at *
    simp [runB, startV, B__law_rising, w]
  · obtain ⟨Hs, a2, a3, a4, hH, w⟩ := rise_loop Γ k1 h1 ws hW few
    rw [h.uniq hW hH]
    generalize ws.map gT = L0 at *
    generalize Hs.map gT = L1 at *
    simp [runB, startV, B__law_rising, w]

end Cg

set_option maxHeartbeats 1000000
namespace Cg
open PySem PySem.Spec PyProof.Rows L2
/-! ### 58. gears in the order of their ratios -/
theorem gearsL_nodup (n m : Nat) : (gearsL n m).Nodup := by
  unfold gearsL List.Nodup
  rw [List.pairwise_flatMap]
  refine ⟨fun i _ => ?_, ?_⟩
  · rw [List.pairwise_map]
    refine List.Pairwise.imp (fun {a b} h e => ?_) List.pairwise_lt_range
    have := (Prod.mk.inj e).2
    omega
  · refine List.Pairwise.imp (fun {a b} h x hx y hy e => ?_) List.pairwise_lt_range
    obtain ⟨j, _, rfl⟩ := List.mem_map.mp hx
    obtain ⟨k, _, rfl⟩ := List.mem_map.mp hy
    have := (Prod.mk.inj e).1
    omega
def ordR (rs cs : List Int) (a b : Int × Int) : Prop := vG rs cs a < vG rs cs b ∨ vG rs cs a = vG rs cs b ∧ leG a b = true
theorem find_order {rs cs : List Int} (d : Drawn rs cs) : ∃ gs : List (Int × Int), findG rs cs = gs.map gT ∧ gs.Perm (gearsL rs.length cs.length) ∧ gs.Pairwise (ordR rs cs) := by
  obtain ⟨gs, e1, e2, e3⟩ := findG_sorted rs cs
  have gin : ∀ g ∈ gs, inG rs cs g := fun g hg => mem_gearsL.mp (e2.mem_iff.mp hg)
  refine ⟨gs, e1, e2, List.Pairwise.imp_of_mem (fun {p q} hp hq h => ?_) e3⟩
  have le := (vG_le d (gin p hp) (gin q hq)).mpr (leR_of d (gin p hp) (gin q hq) h)
  by_cases e : vG rs cs p = vG rs cs q
  · refine .inr ⟨e, ?_⟩
    have er := (ratP_eq d (gin p hp) (gin q hq)).mpr e
    have ek : keyG rs cs p = keyG rs cs q := by
      have a := congrArg Prod.fst er
      have b := congrArg Prod.snd er
      unfold ratP redP at a b
      simp only at a b
      unfold keyG
      rw [a, b]
    rw [lt_row, ek] at h
    rw [decide_eq_false_iff_not] at h
    unfold leG
    rw [decide_eq_true_eq]
    omega
  · exact .inl (by omega)
theorem ordR_anti {rs cs : List Int} {a b : Int × Int} (h : ordR rs cs a b) (h' : ordR rs cs b a) : a = b := by
  unfold ordR leG at h h'
  simp only [decide_eq_true_eq] at h h'
  exact Prod.ext (by omega) (by omega)
def sameG (rs cs : List Int) (h : Int × Int) : List (Int × Int) := (gearsL rs.length cs.length).filter fun q => decide (vG rs cs q = vG rs cs h)
theorem order_eq {rs cs : List Int} (d : Drawn rs cs) {Ls : List (Int × Int)} (hL : IsLadOf rs cs (gearsL rs.length cs.length) Ls) : findG rs cs = (Ls.flatMap (sameG rs cs)).map gT := by
  obtain ⟨gs, e1, e2, e3⟩ := find_order d
  have pw : (Ls.flatMap (sameG rs cs)).Pairwise (ordR rs cs) := by
    rw [List.pairwise_flatMap]
    refine ⟨fun h _ => ?_, hL.asc.imp fun {a b} lt x hx y hy => ?_⟩
    · refine List.Pairwise.imp_of_mem (fun {p q} hp hq hle => ?_) ((gearsL_sorted rs.length cs.length).filter fun q => decide (vG rs cs q = vG rs cs h))
      unfold sameG at hp hq
      rw [List.mem_filter, decide_eq_true_eq] at hp hq
      exact .inr ⟨by rw [hp.2, hq.2], hle⟩
    · unfold sameG at hx hy
      rw [List.mem_filter, decide_eq_true_eq] at hx hy
      exact .inl (by rw [hx.2, hy.2]; exact lt)
  have nd : (Ls.flatMap (sameG rs cs)).Nodup := by
    unfold List.Nodup
    rw [List.pairwise_flatMap]
    refine ⟨fun h _ => (gearsL_nodup rs.length cs.length).filter _, hL.asc.imp fun {a b} lt x hx y hy e => ?_⟩
    unfold sameG at hx hy
    rw [List.mem_filter, decide_eq_true_eq] at hx hy
    subst e
    omega
  have pm : gs.Perm (Ls.flatMap (sameG rs cs)) := by
    refine (List.perm_ext_iff_of_nodup (e2.nodup_iff.mpr (gearsL_nodup _ _)) nd).mpr fun g => ?_
    rw [e2.mem_iff, List.mem_flatMap]
    constructor
    · intro hg
      obtain ⟨h, hh, e⟩ := hL.all g hg
      exact ⟨h, hh, List.mem_filter.mpr ⟨hg, by simpa using e.symm⟩⟩
    · rintro ⟨h, _, hg⟩
      exact (List.mem_filter.mp hg).1
  rw [e1, List.Perm.eq_of_pairwise (fun a b _ _ => ordR_anti) e3 pw pm]
theorem lad_of_exists {rs cs : List Int} (d : Drawn rs cs) {In : List (Int × Int)} (hI : ∀ g ∈ In, inG rs cs g) (few : In.length ≤ 100) : ∃ Gs, IsLadOf rs cs In Gs := by
  obtain ⟨Hs, _, _, _, h, _⟩ := rising_loop (fun k => ⟨"", 2, 0, mirP P__law_less⟩) 0 (At.of (Γ := fun k => ⟨"", 2, 0, mirP P__law_less⟩) rfl (run__law_less (fun k => ⟨"", 2, 0, mirP P__law_less⟩))) rs cs In d hI few
  exact ⟨Hs, h⟩
theorem eq_gTs (p q : Int × Int) : dCmp .Eq (gT p) (gT q) = .ok (decide (p = q)) := by rw [eq_at (okD_gT p) (okD_gT q), eqv_gT]
theorem ne_gTs (p q : Int × Int) : dCmp .NotEq (gT p) (gT q) = .ok (!decide (p = q)) := by rw [ne_at (okD_gT p) (okD_gT q), eqv_gT]
/-- compare's answer -/
theorem cmp_val {rs cs : List Int} (d : Drawn rs cs) {p q : Int × Int} (hp : inG rs cs p) (hq : inG rs cs q) : cmpF rs cs p q = if vG rs cs p = vG rs cs q then 0 else if vG rs cs p < vG rs cs q then -1 else 1 := by
  have e : cmpF rs cs p q = ordF (ratP rs cs p).1 (ratP rs cs p).2 (ratP rs cs q).1 (ratP rs cs q).2 := rfl
  have a := rat_lt d hp hq
  have b := rat_lt d hq hp
  rw [e]
  unfold ordF
  by_cases h : vG rs cs p = vG rs cs q
  · rw [if_pos h, if_pos (by omega)]
  · rw [if_neg h, if_neg (by omega)]
    by_cases h2 : vG rs cs p < vG rs cs q
    · rw [if_pos h2, if_neg (by omega)]
    · rw [if_neg h2, if_pos (by omega)]

end Cg

set_option maxHeartbeats 1000000
namespace Cg
open PySem PySem.Spec PyProof.Rows L2
/-! ### 63. climbs -/
def encL (x : Int × List (Int × Int)) : PyData := .tuple [.int x.1, .list (x.2.map gT)]
theorem min_planL {F : List (Int × List (Int × Int))} (h : F ≠ []) : ∃ m ∈ F, dBlt .minL [.list (F.map encL)] = .ok (encL m) ∧ ∀ y ∈ F, kC m ≤ kC y := by
  cases F with
  | nil => exact (h rfl).elim
  | cons x xs =>
    obtain ⟨m, h1, h2, h3⟩ := min_key keyed_cost (by decide) x xs
    exact ⟨m, h2, h1, h3⟩
theorem ne_planNilL (p : List (Int × Int)) : dCmp .NotEq (.list (p.map gT)) (.list []) = .ok (!p.isEmpty) := ne_rowNil p
theorem with_same {rs cs : List Int} (d : Drawn rs cs) {h : Int × Int} (hh : inG rs cs h) : withG rs cs (ratP rs cs h) = sameG rs cs h := by
  unfold withG sameG
  refine List.filter_congr fun g hg => ?_
  exact withP_rat d hh (mem_gearsL.mp hg)
def climbR (rs cs : List Int) (Gs : List (Int × Int)) : List (List (Int × Int)) := Gs.map (sameG rs cs)
/-- the rows depend on the ratios alone -/
theorem climbR_uniq {rs cs : List Int} {A B : List (Int × Int)} (d : Drawn rs cs) (h : IsLad rs cs A) (h' : IsLad rs cs B) : climbR rs cs A = climbR rs cs B := by
  unfold climbR
  refine map_of_map (f := ratP rs cs) (fun x hx y hy e => ?_) (h.uniq d h')
  have v := (ratP_eq d (h.ins x hx) (h'.ins y hy)).mp e
  unfold sameG
  rw [v]
theorem same_ne {rs cs : List Int} {h : Int × Int} (hh : inG rs cs h) : sameG rs cs h ≠ [] := fun e => by
  have : h ∈ sameG rs cs h := by
    unfold sameG
    rw [List.mem_filter, mem_gearsL, decide_eq_true_eq]
    exact ⟨hh, rfl⟩
  rw [e] at this
  cases this
inductive P_find_climb : List PyData → Res PyData → Prop
  | mk (rs cs : List Int) (Gs : List (Int × Int)) (x : Int × List (Int × Int)) (d : Drawn rs cs) (h : IsLad rs cs Gs) (hx : IsMin (climbR rs cs Gs) x) : P_find_climb [bk rs cs] (.ok (encL x))
theorem climb_loop (Γ : Tb) (k1 k2 k3 : Nat) (h1 : At Γ k1 P_find_ladder) (h2 : At Γ k2 P_find_with) (h3 : At Γ k3 P_count_shifts) (rs cs : List Int) (Gs : List (Int × Int)) (d : Drawn rs cs) (hG : IsLad rs cs Gs) (gl : Gs.length ≤ 24) :
    ∃ (F : List (Int × List (Int × Int))) (a2 a3 a4 a5 a6 a7 : Option Sl), evS Γ (L2_find_climb k1 k2 k3) [some (.v (bk rs cs)), some (.v (.list [encL (0, [])])), none, none, none, none, none, none] = .ok (.nx [some (.v (bk rs cs)), some (.v (.list (F.map encL))), a2, a3, a4, a5, a6, a7]) ∧ Best (climbR rs cs Gs) F ∧ F ≠ [] := by
  have few := gears_few d.r2 d.c2
  have c1 := h1 _ _ (.mk rs cs Gs d hG)
  have ei : evI Γ (.val (.rev (.call k1 (.cons (.var 0) .nil)))) [some (.v (bk rs cs)), some (.v (.list [encL (0, [])])), none, none, none, none, none, none] = .ok (Gs.reverse.map fun h => gT (ratP rs cs h)) := by
    have rv : dRev (.list ((Gs.map (ratP rs cs)).map gT)) = .ok (.list (Gs.reverse.map fun h => gT (ratP rs cs h))) := by
      have e : (Gs.reverse.map fun h => gT (ratP rs cs h)) = ((Gs.map (ratP rs cs)).map gT).reverse := by rw [List.map_map, List.map_reverse]; rfl
      rw [e]
      rfl
    generalize (Gs.map (ratP rs cs)).map gT = L at *
    generalize Gs.reverse.map (fun h => gT (ratP rs cs h)) = M at *
    simp [c1, rv]
  unfold L2_find_climb
  rw [ts_for, ei, bind_ok]
  have main := for_doneL (fun h => gT (ratP rs cs h)) (f := fun x e => (bindT (.one 2) x e).bind fun e' => evSs Γ (.cons (.own 3 (.lst .nil)) (.cons (L1_find_climb k2 k3) (.cons (.frz 3) (.cons (.asg 1 (.var 3)) .nil)))) e') (fun done e => ∃ (F : List (Int × List (Int × Int))) (a2 a3 a4 a5 a6 a7 : Option Sl), e = [some (.v (bk rs cs)), some (.v (.list (F.map encL))), a2, a3, a4, a5, a6, a7] ∧ Best (climbR rs cs done.reverse) F ∧ F.length ≤ 24 ∧ F ≠ []) Gs.reverse
    [some (.v (bk rs cs)), some (.v (.list [encL (0, [])])), none, none, none, none, none, none] ⟨[(0, [])], _, _, _, _, _, _, rfl, best_nil, by decide, by simp⟩ ?_
  · obtain ⟨_, w1, F, a2, a3, a4, a5, a6, a7, rfl, hb, _, hF⟩ := main
    rw [List.reverse_reverse] at hb
    exact ⟨F, a2, a3, a4, a5, a6, a7, w1, hb, hF⟩
  rintro done h rest _ hx ⟨F, a2, a3, a4, a5, a6, a7, rfl, hb, hF, hne⟩
  have hin : inG rs cs h := hG.ins h (by rw [← List.mem_reverse, hx]; simp)
  have dl : done.length ≤ 24 := by
    have := congrArg List.length hx
    rw [List.length_append, List.length_cons, List.length_reverse] at this
    omega
  have plen : ∀ x ∈ F, x.2.length ≤ 24 := fun x hx => by
    have := plans_len (hb.mem x hx).1
    unfold climbR at this
    rw [List.length_map, List.length_reverse] at this
    omega
  have ok := ratP_ok d hin
  have cw := h2 _ _ (.mk rs cs (ratP rs cs h) (okB_ok d.ok).1 (by omega) ok.2.2.2.2)
  rw [with_same d hin] at cw
  have rl : (sameG rs cs h).length ≤ 24 := Nat.le_trans (List.length_filter_le _ _) few
  have rne := same_ne hin
  have hrev : climbR rs cs (done ++ [h]).reverse = sameG rs cs h :: climbR rs cs done.reverse := by
    unfold climbR
    rw [List.reverse_append]
    rfl
  generalize hr : sameG rs cs h = r at *
  obtain ⟨_, w2, F', a4', a5', a6', a7', rfl, q1, q2, q3⟩ : ∃ e', evS Γ (L1_find_climb k2 k3) [some (.v (bk rs cs)), some (.v (.list (F.map encL))), some (.v (gT (ratP rs cs h))), some (.l ([])), a4, a5, a6, a7] = .ok (.nx e') ∧ ∃ (F' : List (Int × List (Int × Int))) (a4' a5' a6' a7' : Option Sl), e' = [some (.v (bk rs cs)), some (.v (.list (F.map encL))), some (.v (gT (ratP rs cs h))), some (.l (F'.map encL)), a4', a5', a6', a7'] ∧
      (∀ y ∈ F', ∃ g ∈ r, ∃ x ∈ F, y = growI g x) ∧ (∀ g ∈ r, ∀ x ∈ F, ∃ y ∈ F', y.2.head? = some g ∧ kC y ≤ kC (growI g x)) ∧ F'.length = r.length := by
    have ei : evI Γ (.val (.call k2 (.cons (.var 0) (.cons (.var 2) .nil)))) [some (.v (bk rs cs)), some (.v (.list (F.map encL))), some (.v (gT (ratP rs cs h))), some (.l ([])), a4, a5, a6, a7] = .ok (r.map gT) := by simp [cw]
    unfold L1_find_climb
    rw [ts_for, ei, bind_ok]
    refine for_doneL gT (fun dn e => ∃ (F' : List (Int × List (Int × Int))) (a4' a5' a6' a7' : Option Sl), e = [some (.v (bk rs cs)), some (.v (.list (F.map encL))), some (.v (gT (ratP rs cs h))), some (.l (F'.map encL)), a4', a5', a6', a7'] ∧
      (∀ y ∈ F', ∃ g ∈ dn, ∃ x ∈ F, y = growI g x) ∧ (∀ g ∈ dn, ∀ x ∈ F, ∃ y ∈ F', y.2.head? = some g ∧ kC y ≤ kC (growI g x)) ∧ F'.length = dn.length) _ _ ⟨[], _, _, _, _, rfl, by simp, by simp, by simp⟩ ?_
    rintro dn g rst _ hy ⟨F', a4', a5', a6', a7', rfl, q1, q2, q3⟩
    have hdn : dn.length ≤ 24 := by have := congrArg List.length hy; rw [List.length_append, List.length_cons] at this; omega
    have E : evE Γ (E1_find_climb k3) [some (.v (bk rs cs)), some (.v (.list (F.map encL))), some (.v (gT (ratP rs cs h))), some (.l (F'.map encL)), some (.v (gT g)), a5', a6', a7'] = .ok (.list ((F.map (growI g)).map encL)) := by
      rw [List.map_map]
      refine lc_enc encL (g := fun x => encL (growI g x)) (by simp) (fun x hx => ?_) (by omega)
      obtain ⟨c, pl⟩ := x
      have b : bindT (.tup [6, 7]) (encL (c, pl)) (wipeV [some (.v (bk rs cs)), some (.v (.list (F.map encL))), some (.v (gT (ratP rs cs h))), some (.l (F'.map encL)), some (.v (gT g)), a5', a6', a7'] (([("cost", 6), ("way", 7)] : List (Str × Nat)).map (·.2))) = .ok [some (.v (bk rs cs)), some (.v (.list (F.map encL))), some (.v (gT (ratP rs cs h))), some (.l (F'.map encL)), some (.v (gT g)), a5', some (.v (.int c)), some (.v (.list (pl.map gT)))] := rfl
      rw [b, bind_ok]
      have ct := cat_l (xs := [gT g]) (ys := pl.map gT) (by have := plen _ hx; simp only [List.length_singleton, List.length_map] at this ⊢; omega)
      have nn := ne_planNilL pl
      cases pl with
      | nil =>
        simp at nn ct
        simp [nn, ct, encL, growI, extI]
      | cons g' pl' =>
        have i0 : dIx (.list ((g' :: pl').map gT)) (.int 0) = .ok (gT g') := dIx_nn (by decide) rfl
        have cs' := h3 _ _ (.mk g g')
        simp only [List.map_cons] at nn ct i0
        simp [nn, ct, i0, cs', encL, growI, extI, Int.add_comm]
    have hGn : F.map (growI g) ≠ [] := by simpa using hne
    obtain ⟨m, hm, mn, ml⟩ := min_planL hGn
    have z : F'.length < sizeLine := app_ok (by omega)
    generalize hGe : F.map (growI g) = G at *
    refine ⟨[some (.v (bk rs cs)), some (.v (.list (F.map encL))), some (.v (gT (ratP rs cs h))), some (.l ((F' ++ [m]).map encL)), some (.v (gT g)), some (.v (.list (G.map encL))), a6', a7'], ?_, F' ++ [m], _, _, _, _, rfl, fun y hy => ?_, fun g' hg' x hx => ?_, by simp [q3]⟩
    · simp [E, mn, z]
    · rcases List.mem_append.mp hy with hy | hy
      · obtain ⟨g', hg', h'⟩ := q1 y hy
        exact ⟨g', by simp [hg'], h'⟩
      · obtain rfl : y = m := by simpa using hy
        rw [← hGe] at hm
        obtain ⟨x, hx, rfl⟩ := List.mem_map.mp hm
        exact ⟨g, by simp, x, hx, rfl⟩
    · rcases List.mem_append.mp hg' with hg' | hg'
      · obtain ⟨y, hy, h'⟩ := q2 g' hg' x hx
        exact ⟨y, by simp [hy], h'⟩
      · obtain rfl : g' = g := by simpa using hg'
        refine ⟨m, by simp, ?_, ml _ (by rw [← hGe]; exact List.mem_map.mpr ⟨x, hx, rfl⟩)⟩
        rw [← hGe] at hm
        obtain ⟨x, hx, rfl⟩ := List.mem_map.mp hm
        rfl
  refine ⟨[some (.v (bk rs cs)), some (.v (.list (F'.map encL))), some (.v (gT (ratP rs cs h))), some (.v (.list (F'.map encL))), a4', a5', a6', a7'], ?_, F', _, _, _, _, _, _, rfl, ?_, by omega, fun e => ?_⟩
  · simp [w2]
  · rw [hrev]
    exact best_cons hb q1 q2
  · subst e
    exact rne (List.length_eq_zero_iff.mp q3.symm)
theorem run_find_climb (Γ : Tb) (k1 k2 k3 : Nat) (h1 : At Γ k1 P_find_ladder) (h2 : At Γ k2 P_find_with) (h3 : At Γ k3 P_count_shifts) : ∀ ds r, P_find_climb ds r → runB Γ 8 (B_find_climb k1 k2 k3) ds = r := by
  have i0 : PyData.tuple [.int 0, .list []] = encL (0, []) := rfl
  rintro _ _ ⟨rs, cs, Gs, x, d, h, hx⟩
  obtain ⟨Hs, hH, hl⟩ := lad_exists d
  rw [climbR_uniq d h hH] at hx
  obtain ⟨F, a2, a3, a4, a5, a6, a7, w1, hb, hF⟩ := climb_loop Γ k1 k2 k3 h1 h2 h3 rs cs Hs d hH hl
  obtain ⟨m, hm, mn, ml⟩ := min_planL hF
  have e : m = x := (best_min hb hm ml).uniq hx
  subst e
  generalize F.map encL = L at *
  simp [runB, startV, B_find_climb, i0, w1, mn]
inductive P_fewest_shifts : List PyData → Res PyData → Prop
  | mk (rs cs : List Int) (Gs : List (Int × Int)) (x : Int × List (Int × Int)) (d : Drawn rs cs) (h : IsLad rs cs Gs) (hx : IsMin (climbR rs cs Gs) x) : P_fewest_shifts [bk rs cs] (.ok (.int x.1))
theorem run_fewest_shifts (Γ : Tb) (k1 k2 : Nat) (h1 : (Γ k1).run = m_check_bike) (h2 : At Γ k2 P_find_climb) : ∀ ds r, P_fewest_shifts ds r → runB Γ 1 (B_fewest_shifts k1 k2) ds = r := by
  rintro _ _ ⟨rs, cs, Gs, x, d, h, hx⟩
  have i0 : dIx (encL x) (.int 0) = .ok (.int x.1) := ix_t0 _ _
  simp [runB, startV, B_fewest_shifts, check_bike_at h1 d.ok, h2 _ _ (.mk rs cs Gs x d h hx), i0]
inductive P_best_climb : List PyData → Res PyData → Prop
  | mk (rs cs : List Int) (Gs : List (Int × Int)) (x : Int × List (Int × Int)) (d : Drawn rs cs) (h : IsLad rs cs Gs) (hx : IsMin (climbR rs cs Gs) x) : P_best_climb [bk rs cs] (.ok (.list (x.2.map gT)))
theorem run_best_climb (Γ : Tb) (k1 k2 : Nat) (h1 : (Γ k1).run = m_check_bike) (h2 : At Γ k2 P_find_climb) : ∀ ds r, P_best_climb ds r → runB Γ 1 (B_best_climb k1 k2) ds = r := by
  rintro _ _ ⟨rs, cs, Gs, x, d, h, hx⟩
  have i0 : dIx (encL x) (.int 1) = .ok (.list (x.2.map gT)) := ix_t1 _ _ _
  simp [runB, startV, B_best_climb, check_bike_at h1 d.ok, h2 _ _ (.mk rs cs Gs x d h hx), i0]

end Cg

set_option maxHeartbeats 1000000
namespace Cg
open PySem PySem.Spec PyProof.Rows L2
/-! ### the law's moves, step by step -/
def N__law_moves : List Str := ["_law_ride_here", "_law_start", "_law_found", "_law_level", "_law_longer", "_law_i", "_law_j", "_law_other"]
def L1__law_moves : S := (.for_ (.one 7) (.val (.tup (.cons (.tup (.cons (.bin .Add (.var 5) (.int 1)) (.cons (.var 6) .nil))) (.cons (.tup (.cons (.bin .Sub (.var 5) (.int 1)) (.cons (.var 6) .nil))) (.cons (.tup (.cons (.var 5) (.cons (.bin .Add (.var 6) (.int 1)) .nil))) (.cons (.tup (.cons (.var 5) (.cons (.bin .Sub (.var 6) (.int 1)) .nil))) .nil))))))
    (.cons (.ife (.and (.inr (.ix (.var 7) (.int 0)) (.blt .len (.cons (.ix (.var 0) (.int 0)) .nil))) (.and (.inr (.ix (.var 7) (.int 1)) (.blt .len (.cons (.ix (.var 0) (.int 1)) .nil))) (.and1 (.cmp .NotIn (.var 7) (.bor 2)))))
    (.cons (.dput 2 (.var 7) (.bin .Add (.ix (.bor 2) (.tup (.cons (.var 5) (.cons (.var 6) .nil)))) (.int 1)))
    (.cons (.app 4 (.var 7))
    .nil))
    .nil)
    .nil))
def L2__law_moves : S := (.for_ (.tup [5, 6]) (.val (.var 3))
    (.cons L1__law_moves
    .nil))
def L3__law_moves (fuel : Nat) : S := (.whl fuel (.cmp .NotEq (.var 3) (.lst .nil))
    (.cons (.own 4 (.lst .nil))
    (.cons L2__law_moves
    (.cons (.frz 4)
    (.cons (.asg 3 (.var 4))
    .nil)))))
def B__law_moves (fuel : Nat) : Ss := (.cons (.par [2, 3] [(true, (.blt .dict (.cons (.lst (.cons (.tup (.cons (.var 1) (.cons (.int 0) .nil))) .nil)) .nil))), (false, (.lst (.cons (.var 1) .nil)))])
    (.cons (L3__law_moves fuel)
    (.cons (.frz 2)
    (.cons (.ret (.var 2))
    .nil))))
abbrev MF := List ((Int × Int) × Int)
def encM (f : MF) : List (PyData × PyData) := f.map fun q => (gT q.1, .int q.2)
def lookM (f : MF) (p : Int × Int) : Option Int := (f.find? fun q => decide (q.1 = p)).map (·.2)
def stepM (n m : Nat) (p o : Int × Int) (s : MF × List (Int × Int)) : Option (MF × List (Int × Int)) :=
  if (0 ≤ o.1 ∧ o.1 < (n : Int)) ∧ (0 ≤ o.2 ∧ o.2 < (m : Int)) then
    (if s.1.isEmpty = true then none else
      match lookM s.1 o with
      | some _ => some s
      | none => match lookM s.1 p with
        | some k => if s.1.length < 100 ∧ s.2.length < 100 then some (s.1 ++ [(o, k + 1)], s.2 ++ [o]) else none
        | none => none)
  else some s
def runM {α σ : Type} (st : α → σ → Option σ) : List α → σ → Option σ
  | [], s => some s
  | x :: xs, s => (st x s).bind (runM st xs)
def nbs (p : Int × Int) : List (Int × Int) := [(p.1 + 1, p.2), (p.1 - 1, p.2), (p.1, p.2 + 1), (p.1, p.2 - 1)]
def levM (n m : Nat) (p : Int × Int) (s : MF × List (Int × Int)) : Option (MF × List (Int × Int)) := runM (stepM n m p) (nbs p) s
def waveM (n m : Nat) : Nat → MF → List (Int × Int) → Option MF
  | 0, _, _ => none
  | k + 1, f, lv => if lv.isEmpty = true then some f else (runM (levM n m) lv (f, [])).bind fun s => waveM n m k s.1 s.2
def movM (n m : Nat) (g : Int × Int) : Option MF := waveM n m 20 [(g, 0)] [g]
/-- every gear has its number of shifts -/
def movB (n m : Nat) : Bool := (gearsL n m).all fun g => match movM n m g with
  | some f => !f.isEmpty && (gearsL n m).all fun q => decide (lookM f q = some (shI g q))
  | none => false
theorem movB_all : ((List.range 4).all fun n => (List.range 9).all fun m => movB n m) = true := by decide +kernel
theorem mov_ok {n m : Nat} (hn : n ≤ 3) (hm : m ≤ 8) {g : Int × Int} (hg : g ∈ gearsL n m) : ∃ f, movM n m g = some f ∧ f ≠ [] ∧ ∀ q ∈ gearsL n m, lookM f q = some (shI g q) := by
  have h := List.all_eq_true.mp (List.all_eq_true.mp movB_all n (List.mem_range.mpr (by omega))) m (List.mem_range.mpr (by omega))
  have h := List.all_eq_true.mp h g hg
  split at h
  · rename_i f e
    rw [Bool.and_eq_true, List.all_eq_true] at h
    exact ⟨f, e, fun z => by rw [z] at h; exact absurd h.1 (by decide), fun q hq => of_decide_eq_true (h.2 q hq)⟩
  · cases h
theorem encM_keys (f : MF) : (encM f).all (fun p => isKeyT p.1) = true := by
  unfold encM
  rw [List.all_map, List.all_eq_true]
  intro q _
  rfl
theorem encM_get : ∀ (f : MF) (p : Int × Int), kvGet (encM f) (gT p) = (lookM f p).map PyData.int
  | [], p => rfl
  | q :: f, p => by
    have ih := encM_get f p
    unfold kvGet lookM encM at ih ⊢
    rw [List.map_cons, List.find?_cons, List.find?_cons]
    simp only [eqv_gT]
    by_cases e : q.1 = p
    · simp [e]
    · simp only [e, decide_false]
      exact ih
theorem keysOk_M {f : MF} (h : f ≠ []) (p : Int × Int) : keysOk (encM f) (gT p) = true := by
  unfold keysOk
  have a := encM_keys f
  have b : isKeyT (gT p) = true := rfl
  have c : (encM f).isEmpty = false := by
    cases f with
    | nil => exact (h rfl).elim
    | cons q f => rfl
  rw [a, b, c]
  simp
theorem ix_M {f : MF} (h : f ≠ []) {p : Int × Int} {k : Int} (e : lookM f p = some k) : dIx (.dict (encM f)) (gT p) = .ok (.int k) := by
  unfold dIx
  simp only
  rw [if_pos (keysOk_M h p), encM_get, e]
  rfl
theorem notin_M {f : MF} (h : f ≠ []) (p : Int × Int) : dCmp .NotIn (gT p) (.dict (encM f)) = .ok (lookM f p).isNone := by
  show (if keysOk (encM f) (gT p) = true then Res.ok (!(kvGet (encM f) (gT p)).isSome) else .no) = _
  rw [if_pos (keysOk_M h p), encM_get]
  cases lookM f p <;> rfl
theorem put_M {f : MF} {p : Int × Int} (e : lookM f p = none) (k : Int) : kvPut (encM f) (gT p) (.int k) = encM (f ++ [(p, k)]) := by
  unfold kvPut
  have a : ((encM f).any fun q => PyData.eqv q.1 (gT p)) = false := by
    unfold lookM at e
    rw [Option.map_eq_none_iff, List.find?_eq_none] at e
    unfold encM
    rw [List.any_map, List.any_eq_false]
    intro q hq
    have := e q hq
    simpa [Function.comp, eqv_gT] using this
  rw [a, if_neg (by decide)]
  unfold encM
  rw [List.map_append]
  rfl
theorem moves_step (Γ : Tb) (rs cs : List Int) (g p o : Int × Int) (s s' : MF × List (Int × Int)) (lv : Option Sl) (h : stepM rs.length cs.length p o s = some s') :
    evSs Γ (.cons (.ife (.and (.inr (.ix (.var 7) (.int 0)) (.blt .len (.cons (.ix (.var 0) (.int 0)) .nil))) (.and (.inr (.ix (.var 7) (.int 1)) (.blt .len (.cons (.ix (.var 0) (.int 1)) .nil))) (.and1 (.cmp .NotIn (.var 7) (.bor 2)))))
    (.cons (.dput 2 (.var 7) (.bin .Add (.ix (.bor 2) (.tup (.cons (.var 5) (.cons (.var 6) .nil)))) (.int 1)))
    (.cons (.app 4 (.var 7))
    .nil))
    .nil)
    .nil) [some (.v (bk rs cs)), some (.v (gT g)), some (.d true (encM s.1)), lv, some (.l (s.2.map gT)), some (.v (.int p.1)), some (.v (.int p.2)), some (.v (gT o))] = .ok (.nx [some (.v (bk rs cs)), some (.v (gT g)), some (.d true (encM s'.1)), lv, some (.l (s'.2.map gT)), some (.v (.int p.1)), some (.v (.int p.2)), some (.v (gT o))]) := by
  obtain ⟨f, l⟩ := s
  have i0 : dIx (bk rs cs) (.int 0) = .ok (.tuple (rs.map .int)) := ix_t0 _ _
  have i1 : dIx (bk rs cs) (.int 1) = .ok (.tuple (cs.map .int)) := ix_t1 _ _ _
  have l0 : dBlt .len [.tuple (rs.map .int)] = .ok (.int rs.length) := by
    show Res.ok (PyData.int _) = _
    rw [List.length_map]
  have l1 : dBlt .len [.tuple (cs.map .int)] = .ok (.int cs.length) := by
    show Res.ok (PyData.int _) = _
    rw [List.length_map]
  have o0 : dIx (gT o) (.int 0) = .ok (.int o.1) := ix_t0 _ _
  have o1 : dIx (gT o) (.int 1) = .ok (.int o.2) := ix_t1 _ _ _
  have gp : PyData.tuple [.int p.1, .int p.2] = gT p := rfl
  have kt : isKeyT (gT o) = true := rfl
  unfold stepM at h
  simp only at h
  by_cases c1 : 0 ≤ o.1 ∧ o.1 < (rs.length : Int)
  rotate_left
  · rw [if_neg (fun z => c1 z.1)] at h
    cases h
    simp [i0, l0, o0, c1]
  by_cases c2 : 0 ≤ o.2 ∧ o.2 < (cs.length : Int)
  rotate_left
  · rw [if_neg (fun z => c2 z.2)] at h
    cases h
    simp [i0, l0, o0, i1, l1, o1, c1, c2]
  rw [if_pos ⟨c1, c2⟩] at h
  cases f with
  | nil => cases h
  | cons q f =>
  have hne : q :: f ≠ [] := fun z => by cases z
  have nn := notin_M hne o
  have ix := fun k e => ix_M hne (p := p) (k := k) e
  have pt := fun e k => put_M (f := q :: f) (p := o) e k
  have len : (encM (q :: f)).length = (q :: f).length := List.length_map _
  rw [if_neg (by simp)] at h
  generalize q :: f = F at *
  split at h
  · rename_i k e
    cases h
    rw [e] at nn
    simp [i0, l0, o0, i1, l1, o1, c1, c2, nn]
  · rename_i e
    rw [e] at nn
    have pt := pt e
    split at h
    · rename_i k ek
      have ix := ix k ek
      split at h
      · rename_i z
        cases h
        have pt := pt (k + 1)
        have z1 : (encM F).length < 1000 := by rw [len]; omega
        have z2 : l.length < sizeLine := app_ok (by omega)
        have em : (l ++ [o]).map gT = l.map gT ++ [gT o] := by rw [List.map_append]; rfl
        have lm : (l.map gT).length = l.length := List.length_map _
        rw [em]
        generalize l.map gT = L at *
        generalize encM F = K at *
        generalize encM (F ++ [(o, k + 1)]) = K2 at *
        simp [i0, l0, o0, i1, l1, o1, c1, c2, nn, ix, gp, z1, kt, pt, lm, z2]
      · cases h
    · cases h
theorem for_runM {α σ : Type} (enc : α → PyData) {f : PyData → Ev → Res Fl} {st : α → σ → Option σ} (P : σ → Ev → Prop) (h : ∀ x s s' e, st x s = some s' → P s e → ∃ e', f (enc x) e = .ok (.nx e') ∧ P s' e') :
    ∀ (xs : List α) (s s' : σ) (e : Ev), runM st xs s = some s' → P s e → ∃ e', forR f (xs.map enc) e = .ok (.nx e') ∧ P s' e'
  | [], s, s', e, r, p => by
    cases r
    exact ⟨e, rfl, p⟩
  | x :: xs, s, s', e, r, p => by
    unfold runM at r
    rw [Option.bind_eq_some_iff] at r
    obtain ⟨s1, r1, r2⟩ := r
    obtain ⟨e1, w1, p1⟩ := h x s s1 e r1 p
    obtain ⟨e2, w2, p2⟩ := for_runM enc P h xs s1 s' e1 r2 p1
    refine ⟨e2, ?_, p2⟩
    rw [List.map_cons]
    unfold forR
    rw [w1, bind_ok]
    exact w2
theorem moves_lev (Γ : Tb) (rs cs : List Int) (g p : Int × Int) (s s' : MF × List (Int × Int)) (lv a7 : Option Sl) (h : levM rs.length cs.length p s = some s') :
    ∃ b7, evSs Γ (.cons L1__law_moves .nil) [some (.v (bk rs cs)), some (.v (gT g)), some (.d true (encM s.1)), lv, some (.l (s.2.map gT)), some (.v (.int p.1)), some (.v (.int p.2)), a7] = .ok (.nx [some (.v (bk rs cs)), some (.v (gT g)), some (.d true (encM s'.1)), lv, some (.l (s'.2.map gT)), some (.v (.int p.1)), some (.v (.int p.2)), b7]) := by
  have ei : evI Γ (.val (.tup (.cons (.tup (.cons (.bin .Add (.var 5) (.int 1)) (.cons (.var 6) .nil))) (.cons (.tup (.cons (.bin .Sub (.var 5) (.int 1)) (.cons (.var 6) .nil))) (.cons (.tup (.cons (.var 5) (.cons (.bin .Add (.var 6) (.int 1)) .nil))) (.cons (.tup (.cons (.var 5) (.cons (.bin .Sub (.var 6) (.int 1)) .nil))) .nil)))))) [some (.v (bk rs cs)), some (.v (gT g)), some (.d true (encM s.1)), lv, some (.l (s.2.map gT)), some (.v (.int p.1)), some (.v (.int p.2)), a7] = .ok ((nbs p).map gT) := by
    simp
    rfl
  unfold levM at h
  obtain ⟨_, w, b7, rfl⟩ := for_runM gT (f := fun x e => (bindT (.one 7) x e).bind fun e' => evSs Γ (.cons (.ife (.and (.inr (.ix (.var 7) (.int 0)) (.blt .len (.cons (.ix (.var 0) (.int 0)) .nil))) (.and (.inr (.ix (.var 7) (.int 1)) (.blt .len (.cons (.ix (.var 0) (.int 1)) .nil))) (.and1 (.cmp .NotIn (.var 7) (.bor 2)))))
    (.cons (.dput 2 (.var 7) (.bin .Add (.ix (.bor 2) (.tup (.cons (.var 5) (.cons (.var 6) .nil)))) (.int 1)))
    (.cons (.app 4 (.var 7))
    .nil))
    .nil)
    .nil) e') (fun s e => ∃ b7, e = [some (.v (bk rs cs)), some (.v (gT g)), some (.d true (encM s.1)), lv, some (.l (s.2.map gT)), some (.v (.int p.1)), some (.v (.int p.2)), b7]) (fun o s s' e hs he => by
      obtain ⟨b7, rfl⟩ := he
      exact ⟨_, moves_step Γ rs cs g p o s s' lv hs, _, rfl⟩) (nbs p) s s' _ h ⟨a7, rfl⟩
  refine ⟨b7, ?_⟩
  unfold L1__law_moves
  rw [tt_cons, ts_for, ei, bind_ok, w, thenS_nx, tt_nil]
theorem moves_wave (Γ : Tb) (rs cs : List Int) (g : Int × Int) : ∀ (k : Nat) (f f' : MF) (l : List (Int × Int)) (a4 a5 a6 a7 : Option Sl), waveM rs.length cs.length k f l = some f' →
    ∃ b3 b4 b5 b6 b7, whlR (fun e => (evE Γ (.cmp .NotEq (.var 3) (.lst .nil)) e).bind asB) (fun e => evSs Γ (.cons (.own 4 (.lst .nil)) (.cons L2__law_moves (.cons (.frz 4) (.cons (.asg 3 (.var 4)) .nil)))) e) k [some (.v (bk rs cs)), some (.v (gT g)), some (.d true (encM f)), some (.v (.list (l.map gT))), a4, a5, a6, a7] = .ok (.nx [some (.v (bk rs cs)), some (.v (gT g)), some (.d true (encM f')), b3, b4, b5, b6, b7])
  | 0, f, f', l, a4, a5, a6, a7, h => by cases h
  | k + 1, f, f', l, a4, a5, a6, a7, h => by
    unfold waveM at h
    have nn := ne_rowNil l
    split at h
    · rename_i e
      cases h
      cases l with
      | nil =>
        have nn : dCmp .NotEq (.list []) (.list []) = .ok false := nn
        exact ⟨_, _, _, _, _, whl_stop (by simp [nn])⟩
      | cons => cases e
    · rename_i e
      rw [Option.bind_eq_some_iff] at h
      obtain ⟨s, h1, h2⟩ := h
      have ei : evI Γ (.val (.var 3)) [some (.v (bk rs cs)), some (.v (gT g)), some (.d true (encM f)), some (.v (.list (l.map gT))), some (.l ([])), a5, a6, a7] = .ok (l.map gT) := by simp
      obtain ⟨_, w, b5, b6, b7, rfl⟩ := for_runM gT (f := fun x e => (bindT (.tup [5, 6]) x e).bind fun e' => evSs Γ (.cons L1__law_moves .nil) e') (fun s e => ∃ b5 b6 b7, e = [some (.v (bk rs cs)), some (.v (gT g)), some (.d true (encM s.1)), some (.v (.list (l.map gT))), some (.l (s.2.map gT)), b5, b6, b7]) (fun p s s' e hs he => by
        obtain ⟨b5, b6, b7, rfl⟩ := he
        obtain ⟨c7, w⟩ := moves_lev Γ rs cs g p s s' (some (.v (.list (l.map gT)))) b7 hs
        exact ⟨_, w, _, _, _, rfl⟩) l (f, []) s _ h1 ⟨a5, a6, a7, rfl⟩
      obtain ⟨c3, c4, c5, c6, c7, wk⟩ := moves_wave Γ rs cs g k s.1 f' s.2 (some (.v (.list (s.2.map gT)))) b5 b6 b7 h2
      have wL : evS Γ L2__law_moves [some (.v (bk rs cs)), some (.v (gT g)), some (.d true (encM f)), some (.v (.list (l.map gT))), some (.l ([])), a5, a6, a7] = .ok (.nx [some (.v (bk rs cs)), some (.v (gT g)), some (.d true (encM s.1)), some (.v (.list (l.map gT))), some (.l (s.2.map gT)), b5, b6, b7]) := by
        unfold L2__law_moves
        rw [ts_for, ei, bind_ok]
        exact w
      refine ⟨c3, c4, c5, c6, c7, ?_⟩
      have hc : (fun e => (evE Γ (.cmp .NotEq (.var 3) (.lst .nil)) e).bind asB) [some (.v (bk rs cs)), some (.v (gT g)), some (.d true (encM f)), some (.v (.list (l.map gT))), a4, a5, a6, a7] = .ok true := by
        have nn : dCmp .NotEq (.list (l.map gT)) (.list []) = .ok (!l.isEmpty) := nn
        have e : l.isEmpty = false := by simpa using e
        rw [e] at nn
        generalize l.map gT = L at *
        simp [nn]
      rw [whl_step (e' := [some (.v (bk rs cs)), some (.v (gT g)), some (.d true (encM s.1)), some (.v (.list (s.2.map gT))), some (.v (.list (s.2.map gT))), b5, b6, b7]) hc ?_]
      · exact wk
      · generalize s.2.map gT = L2 at *
        generalize l.map gT = L at *
        generalize encM f = F at *
        generalize encM s.1 = F2 at *
        simp [wL]
inductive P__law_moves : List PyData → Res PyData → Prop
  | mk (rs cs : List Int) (g : Int × Int) (f : MF) (h : movM rs.length cs.length g = some f) : P__law_moves [bk rs cs, gT g] (.ok (.dict (encM f)))
theorem run__law_moves (Γ : Tb) : ∀ ds r, P__law_moves ds r → runB Γ 8 (B__law_moves 20) ds = r := by
  rintro _ _ ⟨rs, cs, g, f, h⟩
  have kt : isKeyT (gT g) = true := rfl
  have d1 := dsp_ok kt 0
  have e1 : [(gT g, PyData.int 0)] = encM [(g, 0)] := rfl
  have e2 : [gT g] = [g].map gT := rfl
  obtain ⟨b3, b4, b5, b6, b7, w⟩ := moves_wave Γ rs cs g 20 [(g, 0)] f [g] none none none none h
  have wL : evS Γ (L3__law_moves 20) [some (.v (bk rs cs)), some (.v (gT g)), some (.d true (encM [(g, 0)])), some (.v (.list ([g].map gT))), none, none, none, none] = .ok (.nx [some (.v (bk rs cs)), some (.v (gT g)), some (.d true (encM f)), b3, b4, b5, b6, b7]) := by
    unfold L3__law_moves
    rw [ts_whl]
    exact w
  have dd : dBlt .dict [.list [.tuple [gT g, .int 0]]] = .ok (.dict [(gT g, .int 0)]) := d1
  rw [← e1, ← e2] at wL
  simp [runB, startV, B__law_moves, dd, kt, wL]

end Cg

set_option maxHeartbeats 1000000
namespace Cg
open PySem PySem.Spec PyProof.Rows L2
/-! ### the law's dicts, its gears up and down -/
def movF (n m : Nat) (g : Int × Int) : MF := (movM n m g).getD []
theorem movF_ok {n m : Nat} (hn : n ≤ 3) (hm : m ≤ 8) {g : Int × Int} (hg : g ∈ gearsL n m) : movM n m g = some (movF n m g) ∧ movF n m g ≠ [] ∧ ∀ q ∈ gearsL n m, lookM (movF n m g) q = some (shI g q) := by
  obtain ⟨f, e, h⟩ := mov_ok hn hm hg
  unfold movF
  rw [e]
  exact ⟨rfl, h⟩
def outKV (F : Int × Int → PyData) (gs : List (Int × Int)) : List (PyData × PyData) := gs.map fun g => (gT g, F g)
def moveD (n m : Nat) (g : Int × Int) : PyData := .dict (encM (movF n m g))
theorem out_get {F : Int × Int → PyData} {gs : List (Int × Int)} {g : Int × Int} (h : g ∈ gs) : dIx (.dict (outKV F gs)) (gT g) = .ok (F g) := by
  have k1 : keysOk (outKV F gs) (gT g) = true := by
    unfold keysOk
    have ne : (outKV F gs).isEmpty = false := by
      unfold outKV
      cases gs with
      | nil => cases h
      | cons _ _ => rfl
    have al : (outKV F gs).all (fun p => isKeyT p.1) = true := by
      unfold outKV
      rw [List.all_map, List.all_eq_true]
      intro q _
      rfl
    have b : isKeyT (gT g) = true := rfl
    rw [ne, al, b]
    simp
  have k2 : kvGet (outKV F gs) (gT g) = some (F g) := by
    unfold kvGet outKV
    rw [List.find?_map]
    have e : ((fun p : PyData × PyData => PyData.eqv p.1 (gT g)) ∘ fun q : Int × Int => (gT q, F q)) = fun q => decide (q = g) := by
      funext q
      exact eqv_gT q g
    rw [e, find_self h]
    rfl
  unfold dIx
  simp only
  rw [if_pos k1, k2]
theorem dct_out (F : Int × Int → PyData) {gs : List (Int × Int)} (hn : gs.Nodup) (h0 : gs ≠ []) (hl : gs.length < 1000) : dBlt .dict [.list (gs.map fun g => .tuple [gT g, F g])] = .ok (.dict (outKV F gs)) := by
  have p1 : pairsI (gs.map fun g => .tuple [gT g, F g]) = none := by
    cases gs with
    | nil => exact (h0 rfl).elim
    | cons g gs => rfl
  have p2 : ∀ gs : List (Int × Int), pairsT (gs.map fun g => .tuple [gT g, F g]) = some (outKV F gs) := by
    intro gs
    induction gs with
    | nil => rfl
    | cons g gs ih =>
      have kt : isKeyT (gT g) = true := rfl
      rw [List.map_cons]
      unfold pairsT
      rw [if_pos kt, ih]
      rfl
  have pw : ((outKV F gs).map (·.1)).Pairwise (fun a b => PyData.eqv a b = false) := by
    unfold outKV
    rw [List.map_map]
    refine List.pairwise_map.mpr (hn.imp fun {a b} h => ?_)
    simp only [Function.comp, eqv_gT]
    exact decide_eq_false h
  have ln : (outKV F gs).length < 1000 := by unfold outKV; rw [List.length_map]; exact hl
  show dDct _ = _
  unfold dDct
  rw [p1, p2]
  simp only
  rw [if_pos ⟨decide_eq_true pw, ln⟩]
theorem next_up {rs cs : List Int} (d : Drawn rs cs) {Gs : List (Int × Int)} (hG : IsLad rs cs Gs) {g h : Int × Int} (hg : inG rs cs g) {i : Nat} (hi : Gs[i]? = some h) (hv : vG rs cs h = vG rs cs g) :
    (∀ b, Gs[i + 1]? = some b → ∀ m, IsNst rs cs g (vG rs cs b) m → NextR rs cs g 1 (gT m)) ∧ (Gs.length ≤ i + 1 → NextR rs cs g 1 .none) := by
  constructor
  · intro b hb m hmn
    have bm := List.mem_of_getElem? hb
    have bin := hG.ins b bm
    have lt := asc_lt' hG hi hb (by omega)
    exact .some b m bin (by omega) (fun q' hq' h' => by
      obtain ⟨x, hx, ex⟩ := hG.all q' hq'
      obtain ⟨j, hj⟩ := List.mem_iff_getElem?.mp hx
      have l1 := asc_lt hG hi hj (by omega)
      by_cases e : j = i + 1
      · subst e; rw [hb] at hj; cases hj; omega
      · have := asc_lt' hG hb hj (by omega)
        omega) hmn
  · intro q
    exact .none fun q' hq' h' => by
      obtain ⟨x, hx, ex⟩ := hG.all q' hq'
      obtain ⟨j, hj⟩ := List.mem_iff_getElem?.mp hx
      have l1 := asc_lt hG hi hj (by omega)
      obtain ⟨hl, _⟩ := List.getElem?_eq_some_iff.mp hj
      omega
theorem next_dn {rs cs : List Int} (d : Drawn rs cs) {Gs : List (Int × Int)} (hG : IsLad rs cs Gs) {g h : Int × Int} (hg : inG rs cs g) {i : Nat} (hi : Gs[i]? = some h) (hv : vG rs cs h = vG rs cs g) :
    (1 ≤ i → ∀ b, Gs[i - 1]? = some b → ∀ m, IsNst rs cs g (vG rs cs b) m → NextR rs cs g (-1) (gT m)) ∧ (i = 0 → NextR rs cs g (-1) .none) := by
  constructor
  · intro i1 b hb m hmn
    have bm := List.mem_of_getElem? hb
    have bin := hG.ins b bm
    have lt := asc_lt' hG hb hi (by omega)
    exact .some b m bin (by omega) (fun q' hq' h' => by
      obtain ⟨x, hx, ex⟩ := hG.all q' hq'
      obtain ⟨j, hj⟩ := List.mem_iff_getElem?.mp hx
      have l1 := asc_lt hG hj hi (by omega)
      by_cases e : j = i - 1
      · subst e; rw [hb] at hj; cases hj; omega
      · have := asc_lt' hG hj hb (by omega)
        omega) hmn
  · intro q
    exact .none fun q' hq' h' => by
      obtain ⟨x, hx, ex⟩ := hG.all q' hq'
      obtain ⟨j, hj⟩ := List.mem_iff_getElem?.mp hx
      have l1 := asc_lt hG hj hi (by omega)
      omega
theorem next_okD {rs cs : List Int} {g : Int × Int} {way : Int} {r : PyData} (h : NextR rs cs g way r) : okD r = true := by
  cases h with
  | none => rfl
  | some b m => exact okD_gT m
def N_law : List Str := ["_law_script", "_law_i", "_law_ride_here", "_law_table_here", "_law_rungs", "_law_moves_here", "_law_one", "_law_climbs", "_law_value", "_law_k", "_law_longer", "_law_up", "_law_down", "_law_cost", "_law_way", "_law_other"]
def E1_law : C := (.lc (.ix (.var 3) (.var 6)) (.one 6) (.val (.blt .sorted (.cons (.var 3) .nil))) [("_law_one", 6)])
def E2_law (k__law_moves : Nat) : C := (.lc (.tup (.cons (.var 6) (.cons (.call k__law_moves (.cons (.var 2) (.cons (.var 6) .nil))) .nil))) (.one 6) (.val (.var 3)) [("_law_one", 6)])
def E3_law (k_shifts : Nat) : C := (.lc (.call k_shifts (.cons (.var 2) (.cons (.var 6) (.cons (.var 15) .nil)))) (.one 15) (.val (.blt .sorted (.cons (.var 3) .nil))) [("_law_other", 15)])
def E4_law : C := (.lc (.ix (.ix (.var 5) (.var 6)) (.var 15)) (.one 15) (.val (.blt .sorted (.cons (.var 3) .nil))) [("_law_other", 15)])
def E5_law : C := (.lcf (.tup (.cons (.ix (.ix (.var 5) (.var 6)) (.var 15)) (.cons (.var 15) .nil))) (.one 15) (.val (.var 3)) (.cmp .Eq (.ix (.var 3) (.var 15)) (.ix (.var 4) (.bin .Add (.var 9) (.int 1)))) [("_law_other", 15)])
def E6_law : C := (.lcf (.tup (.cons (.ix (.ix (.var 5) (.var 6)) (.var 15)) (.cons (.var 15) .nil))) (.one 15) (.val (.var 3)) (.cmp .Eq (.ix (.var 3) (.var 15)) (.ix (.var 4) (.bin .Sub (.var 9) (.int 1)))) [("_law_other", 15)])
def L1_law (k_shifts k_higher_gear k_lower_gear : Nat) : S := (.for_ (.one 6) (.val (.blt .sorted (.cons (.var 3) .nil)))
    (.cons (.ife (.cmp .NotEq (E3_law k_shifts) E4_law)
    (.cons (.ret (.bl false))
    .nil)
    .nil)
    (.cons (.asg 9 (.mth (.var 4) "index" (.ix (.var 3) (.var 6))))
    (.cons (.par [11, 12] [(false, .non), (false, .non)])
    (.cons (.ife (.cmp .Lt (.bin .Add (.var 9) (.int 1)) (.blt .len (.cons (.var 4) .nil)))
    (.cons (.asg 11 (.ix (.blt .minL (.cons E5_law .nil)) (.int 1)))
    .nil)
    .nil)
    (.cons (.ife (.cmp .Gt (.var 9) (.int 0))
    (.cons (.asg 12 (.ix (.blt .minL (.cons E6_law .nil)) (.int 1)))
    .nil)
    .nil)
    (.cons (.ife (.or (.cmp .NotEq (.call k_higher_gear (.cons (.var 2) (.cons (.var 6) .nil))) (.var 11)) (.or1 (.cmp .NotEq (.call k_lower_gear (.cons (.var 2) (.cons (.var 6) .nil))) (.var 12))))
    (.cons (.ret (.bl false))
    .nil)
    .nil)
    .nil)))))))
def L2_law : S := (.for_ (.one 6) (.val (.blt .sorted (.cons (.var 3) .nil)))
    (.cons (.ife (.cmp .Eq (.ix (.var 3) (.var 6)) (.var 8))
    (.cons (.app 10 (.tup (.cons (.bin .Add (.var 13) (.ife (.cmp .NotEq (.var 14) (.lst .nil)) (.ix (.ix (.var 5) (.ix (.var 14) (.neg (.int 1)))) (.var 6)) (.int 0))) (.cons (.bin .Add (.var 14) (.lst (.cons (.var 6) .nil))) .nil))))
    .nil)
    .nil)
    .nil))
def L3_law : S := (.for_ (.tup [13, 14]) (.val (.var 7))
    (.cons L2_law
    .nil))
def L4_law : S := (.for_ (.one 8) (.val (.var 4))
    (.cons (.own 10 (.lst .nil))
    (.cons L3_law
    (.cons (.frz 10)
    (.cons (.asg 7 (.var 10))
    (.cons (.ife (.cmp .Gt (.blt .len (.cons (.var 7) .nil)) (.int 3000))
    (.cons (.ret (.bl true))
    .nil)
    .nil)
    .nil))))))
def L5_law (k_shifts k_higher_gear k_lower_gear k_fewest_shifts k_best_climb k__law_ride k__law_table k__law_rising k__law_moves : Nat) : S := (.for_ (.one 1) (.rng1 (.int 2))
    (.cons (.asg 2 (.call k__law_ride (.cons (.var 0) (.cons (.bin .Mult (.int 30) (.var 1)) .nil))))
    (.cons (.asg 3 (.call k__law_table (.cons (.var 2) .nil)))
    (.cons (.asg 4 (.call k__law_rising (.cons E1_law .nil)))
    (.cons (.asg 5 (.blt .dict (.cons (E2_law k__law_moves) .nil)))
    (.cons (L1_law k_shifts k_higher_gear k_lower_gear)
    (.cons (.asg 7 (.lst (.cons (.tup (.cons (.int 0) (.cons (.lst .nil) .nil))) .nil)))
    (.cons L4_law
    (.cons (.ife (.or (.cmp .NotEq (.call k_fewest_shifts (.cons (.var 2) .nil)) (.ix (.blt .minL (.cons (.var 7) .nil)) (.int 0))) (.or1 (.cmp .NotEq (.call k_best_climb (.cons (.var 2) .nil)) (.ix (.blt .minL (.cons (.var 7) .nil)) (.int 1)))))
    (.cons (.ret (.bl false))
    .nil)
    .nil)
    .nil)))))))))
def B_law (k_shifts k_higher_gear k_lower_gear k_fewest_shifts k_best_climb k__law_ride k__law_table k__law_rising k__law_moves : Nat) : Ss := (.cons (L5_law k_shifts k_higher_gear k_lower_gear k_fewest_shifts k_best_climb k__law_ride k__law_table k__law_rising k__law_moves)
    (.cons (.ret (.cmp .Eq (.call k_best_climb (.cons (.tup (.cons (.tup (.cons (.int 30) (.cons (.int 40) .nil))) (.cons (.tup (.cons (.int 12) (.cons (.int 15) (.cons (.int 20) .nil)))) .nil))) .nil)) (.lst (.cons (.tup (.cons (.int 0) (.cons (.int 2) .nil))) (.cons (.tup (.cons (.int 0) (.cons (.int 1) .nil))) (.cons (.tup (.cons (.int 0) (.cons (.int 0) .nil))) (.cons (.tup (.cons (.int 1) (.cons (.int 1) .nil))) (.cons (.tup (.cons (.int 1) (.cons (.int 0) .nil))) .nil))))))))
    .nil))
section
variable {rs cs : List Int} {Gs : List (Int × Int)} (s0 s1 s7 s8 s9 s10 s11 s12 s13 s14 : Option Sl)
/-- the moves' dict -/
def movD (rs cs : List Int) : PyData := .dict (outKV (moveD rs.length cs.length) (gearsL rs.length cs.length))
theorem mov_ix (d : Drawn rs cs) {g q : Int × Int} (hg : g ∈ gearsL rs.length cs.length) (hq : q ∈ gearsL rs.length cs.length) : dIx (moveD rs.length cs.length g) (gT q) = .ok (.int (shI g q)) := by
  obtain ⟨_, a, b⟩ := movF_ok d.r2 d.c2 hg
  exact ix_M a (b q hq)
theorem movD_ix {g : Int × Int} (hg : g ∈ gearsL rs.length cs.length) : dIx (movD rs cs) (gT g) = .ok (moveD rs.length cs.length g) := out_get hg
theorem E2_run (Γ : Tb) (k : Nat) (h : At Γ k P__law_moves) (d : Drawn rs cs) (s4 s5 s6 s15 : Option Sl) :
    evE Γ (.blt .dict (.cons (E2_law k) .nil)) [s0, s1, some (.v (bk rs cs)), some (.v (.dict (tabKV rs cs (gearsL rs.length cs.length)))), s4, s5, s6, s7, s8, s9, s10, s11, s12, s13, s14, s15] = .ok (movD rs cs) := by
  have few := gears_few d.r2 d.c2
  have tk := tab_keys rs cs (gearsL rs.length cs.length)
  have ne : gearsL rs.length cs.length ≠ [] := fun z => by
    have r1 := d.r1
    have c1 := d.c1
    have : ((0 : Int), (0 : Int)) ∈ gearsL rs.length cs.length := mem_gearsL.mpr ⟨by simp, by simp only; omega, by simp, by simp only; omega⟩
    rw [z] at this
    cases this
  have dc := dct_out (moveD rs.length cs.length) (gearsL_nodup rs.length cs.length) ne (by omega)
  have E : evE Γ (E2_law k) [s0, s1, some (.v (bk rs cs)), some (.v (.dict (tabKV rs cs (gearsL rs.length cs.length)))), s4, s5, s6, s7, s8, s9, s10, s11, s12, s13, s14, s15] = .ok (.list ((gearsL rs.length cs.length).map fun g => .tuple [gT g, moveD rs.length cs.length g])) := by
    generalize tabKV rs cs (gearsL rs.length cs.length) = KV at *
    refine lc_enc gT (by simp [itemsOf]; exact tk) (fun g hg => ?_) (by omega)
    obtain ⟨a, _⟩ := movF_ok d.r2 d.c2 hg
    have c := h _ _ (.mk rs cs g _ a)
    have em : PyData.dict (encM (movF rs.length cs.length g)) = moveD rs.length cs.length g := rfl
    rw [em] at c
    simp [c]
  simp only [ee_blt, es_cons, es_nil, E, bind_ok]
  exact dc
theorem E3_run (Γ : Tb) (k : Nat) (h : At Γ k P_shifts) (d : Drawn rs cs) {g : Int × Int} (hg : g ∈ gearsL rs.length cs.length) (s4 s5 s15 : Option Sl) :
    evE Γ (E3_law k) [s0, s1, some (.v (bk rs cs)), some (.v (.dict (tabKV rs cs (gearsL rs.length cs.length)))), s4, s5, some (.v (gT g)), s7, s8, s9, s10, s11, s12, s13, s14, s15] = .ok (.list ((gearsL rs.length cs.length).map fun q => .int (shI g q))) := by
  have few := gears_few d.r2 d.c2
  have ts := tab_sorted rs cs rs.length cs.length (by omega)
  generalize tabKV rs cs (gearsL rs.length cs.length) = KV at *
  refine lc_enc gT (by simp [ts]) (fun q hq => ?_) (by omega)
  have c := h _ _ (.mk rs cs g q d.ok (mem_gearsL.mp hg) (mem_gearsL.mp hq))
  simp [c]
theorem E4_run (Γ : Tb) (d : Drawn rs cs) {g : Int × Int} (hg : g ∈ gearsL rs.length cs.length) (s2 s4 s15 : Option Sl) :
    evE Γ E4_law [s0, s1, s2, some (.v (.dict (tabKV rs cs (gearsL rs.length cs.length)))), s4, some (.v (movD rs cs)), some (.v (gT g)), s7, s8, s9, s10, s11, s12, s13, s14, s15] = .ok (.list ((gearsL rs.length cs.length).map fun q => .int (shI g q))) := by
  have few := gears_few d.r2 d.c2
  have ts := tab_sorted rs cs rs.length cs.length (by omega)
  have m1 := movD_ix (rs := rs) (cs := cs) hg
  have m2 := fun q hq => mov_ix d hg (q := q) hq
  generalize tabKV rs cs (gearsL rs.length cs.length) = KV at *
  generalize movD rs cs = M at *
  generalize moveD rs.length cs.length g = N at *
  exact lc_enc gT (by simp [ts]) (fun q hq => by simp [m1, m2 q hq]) (by omega)
/-- the least of the gears with the ratio at that place -/
theorem near_run (Γ : Tb) (d : Drawn rs cs) (hG : IsLad rs cs Gs) {g b : Int × Int} (hg : g ∈ gearsL rs.length cs.length) (s2 s15 : Option Sl) (i : Int) (ix : C) {k : Int}
    (hi : ∀ a6 a11 a12 a15, evE Γ ix [s0, s1, s2, some (.v (.dict (tabKV rs cs (gearsL rs.length cs.length)))), some (.v (.list ((Gs.map (ratP rs cs)).map gT))), some (.v (movD rs cs)), a6, s7, s8, some (.v (.int i)), s10, a11, a12, s13, s14, a15] = .ok (.int k)) (h0 : 0 ≤ k) (hb : Gs[k.toNat]? = some b) :
    ∃ m, IsNst rs cs g (vG rs cs b) m ∧ ∀ a11 a12, evE Γ (.ix (.blt .minL (.cons (.lcf (.tup (.cons (.ix (.ix (.var 5) (.var 6)) (.var 15)) (.cons (.var 15) .nil))) (.one 15) (.val (.var 3)) (.cmp .Eq (.ix (.var 3) (.var 15)) (.ix (.var 4) ix)) [("_law_other", 15)]) .nil)) (.int 1))
      [s0, s1, s2, some (.v (.dict (tabKV rs cs (gearsL rs.length cs.length)))), some (.v (.list ((Gs.map (ratP rs cs)).map gT))), some (.v (movD rs cs)), some (.v (gT g)), s7, s8, some (.v (.int i)), s10, a11, a12, s13, s14, s15] = .ok (gT m) := by
  have few := gears_few d.r2 d.c2
  have tk := tab_keys rs cs (gearsL rs.length cs.length)
  have tg : ∀ g ∈ gearsL rs.length cs.length, dIx (.dict (tabKV rs cs (gearsL rs.length cs.length))) (gT g) = .ok (gT (ratP rs cs g)) := fun g hg => tab_get hg
  have m1 := movD_ix (rs := rs) (cs := cs) hg
  have m2 := fun q hq => mov_ix d hg (q := q) hq
  have bin := hG.ins b (List.mem_of_getElem? hb)
  have ib : dIx (.list ((Gs.map (ratP rs cs)).map gT)) (.int k) = .ok (gT (ratP rs cs b)) := dIx_nn h0 (by simp [hb])
  obtain ⟨m, hm, mn⟩ := min_near (rs := rs) (cs := cs) (g := g) (v := vG rs cs b) (qs := (gearsL rs.length cs.length).filter fun q => decide (vG rs cs q = vG rs cs b)) (fun q => by rw [List.mem_filter, mem_gearsL, decide_eq_true_eq]; rfl) (fun e => by
    have : b ∈ (gearsL rs.length cs.length).filter fun q => decide (vG rs cs q = vG rs cs b) := by rw [List.mem_filter, mem_gearsL, decide_eq_true_eq]; exact ⟨bin, rfl⟩
    rw [e] at this
    cases this)
  refine ⟨m, hm, fun a11 a12 => ?_⟩
  have i1 : dIx (encS g m) (.int 1) = .ok (gT m) := ix_t1 _ _ _
  have eq : ∀ q ∈ gearsL rs.length cs.length, dCmp .Eq (gT (ratP rs cs q)) (gT (ratP rs cs b)) = .ok (decide (vG rs cs q = vG rs cs b)) := fun q hq => by
    rw [eq_gTs]
    congr 1
    exact decide_eq_decide.mpr (ratP_eq d (mem_gearsL.mp hq) bin)
  generalize tabKV rs cs (gearsL rs.length cs.length) = KV at *
  generalize (Gs.map (ratP rs cs)).map gT = L at *
  generalize movD rs cs = M at *
  have E : evE Γ (.lcf (.tup (.cons (.ix (.ix (.var 5) (.var 6)) (.var 15)) (.cons (.var 15) .nil))) (.one 15) (.val (.var 3)) (.cmp .Eq (.ix (.var 3) (.var 15)) (.ix (.var 4) ix)) [("_law_other", 15)]) [s0, s1, s2, some (.v (.dict KV)), some (.v (.list L)), some (.v (M)), some (.v (gT g)), s7, s8, some (.v (.int i)), s10, a11, a12, s13, s14, s15] =
      .ok (.list (((gearsL rs.length cs.length).filter fun q => decide (vG rs cs q = vG rs cs b)).map (encS g))) := by
    refine lcf_enc gT (by simp [itemsOf]; exact tk) (fun q hq => ?_) (fun q hq _ => ?_) (by omega)
    · simp [tg q hq, hi, ib, eq q hq]
    · simp [m1, m2 q hq, encS]
  simp only [ee_ix, ee_blt, es_cons, es_nil, E, bind_ok, mn, ee_int, i1]
end

end Cg

set_option maxHeartbeats 1000000
namespace Cg
open PySem PySem.Spec PyProof.Rows L2
/-! ### the law's loops -/
theorem st_step {Γ : Tb} {s : S} {ss : Ss} {e e' : Ev} {r : Res Fl} (h : evS Γ s e = .ok (.nx e')) (k : evSs Γ ss e' = r) : evSs Γ (.cons s ss) e = r := by
  rw [tt_cons, h, thenS_nx, k]
section
variable {rs cs : List Int} {Gs : List (Int × Int)}
theorem L1_run (Γ : Tb) (k1 k2 k3 : Nat) (h1 : At Γ k1 P_shifts) (h2 : At Γ k2 P_higher_gear) (h3 : At Γ k3 P_lower_gear) (d : Drawn rs cs) (hG : IsLad rs cs Gs) (s0 s1 s7 s8 s10 s13 s14 s15 a6 a9 a11 a12 : Option Sl) :
    ∃ b6 b9 b11 b12, evS Γ (L1_law k1 k2 k3) [s0, s1, some (.v (bk rs cs)), some (.v (.dict (tabKV rs cs (gearsL rs.length cs.length)))), some (.v (.list ((Gs.map (ratP rs cs)).map gT))), some (.v (movD rs cs)), a6, s7, s8, a9, s10, a11, a12, s13, s14, s15] =
      .ok (.nx [s0, s1, some (.v (bk rs cs)), some (.v (.dict (tabKV rs cs (gearsL rs.length cs.length)))), some (.v (.list ((Gs.map (ratP rs cs)).map gT))), some (.v (movD rs cs)), b6, s7, s8, b9, s10, b11, b12, s13, s14, s15]) := by
  have few := gears_few d.r2 d.c2
  have ts := tab_sorted rs cs rs.length cs.length (by omega)
  have ei : evI Γ (.val (.blt .sorted (.cons (.var 3) .nil))) [s0, s1, some (.v (bk rs cs)), some (.v (.dict (tabKV rs cs (gearsL rs.length cs.length)))), some (.v (.list ((Gs.map (ratP rs cs)).map gT))), some (.v (movD rs cs)), a6, s7, s8, a9, s10, a11, a12, s13, s14, s15] = .ok ((gearsL rs.length cs.length).map gT) := by
    generalize (gearsL rs.length cs.length).map gT = G at *
    simp [ts]
  suffices h : ∃ e', evS Γ (L1_law k1 k2 k3) [s0, s1, some (.v (bk rs cs)), some (.v (.dict (tabKV rs cs (gearsL rs.length cs.length)))), some (.v (.list ((Gs.map (ratP rs cs)).map gT))), some (.v (movD rs cs)), a6, s7, s8, a9, s10, a11, a12, s13, s14, s15] = .ok (.nx e') ∧ ∃ b6 b9 b11 b12, e' = [s0, s1, some (.v (bk rs cs)), some (.v (.dict (tabKV rs cs (gearsL rs.length cs.length)))), some (.v (.list ((Gs.map (ratP rs cs)).map gT))), some (.v (movD rs cs)), b6, s7, s8, b9, s10, b11, b12, s13, s14, s15] by
    obtain ⟨_, w, b6, b9, b11, b12, rfl⟩ := h
    exact ⟨b6, b9, b11, b12, w⟩
  unfold L1_law
  rw [ts_for, ei, bind_ok]
  refine for_done gT (fun _ e => ∃ b6 b9 b11 b12, e = [s0, s1, some (.v (bk rs cs)), some (.v (.dict (tabKV rs cs (gearsL rs.length cs.length)))), some (.v (.list ((Gs.map (ratP rs cs)).map gT))), some (.v (movD rs cs)), b6, s7, s8, b9, s10, b11, b12, s13, s14, s15]) _ _ ⟨_, _, _, _, rfl⟩ ?_
  rintro _ g _ hg ⟨t6, t9, t11, t12, rfl⟩
  have hin : inG rs cs g := mem_gearsL.mp hg
  obtain ⟨h, hm, hv⟩ := hG.all g hin
  obtain ⟨i, hi⟩ := List.mem_iff_getElem?.mp hm
  have ix := idx_rat d hG hin hi hv
  have il := (List.getElem?_eq_some_iff.mp hi).1
  have e3 := fun a b c dd e => E3_run s0 s1 s7 s8 a s10 b c s13 s14 Γ k1 h1 d hg dd e s15 (rs := rs) (cs := cs)
  have e4 := fun a b c dd e => E4_run s0 s1 s7 s8 a s10 b c s13 s14 Γ d hg dd e s15 (rs := rs) (cs := cs)
  have q1 : dCmp .NotEq (.list ((gearsL rs.length cs.length).map fun q => .int (shI g q))) (.list ((gearsL rs.length cs.length).map fun q => .int (shI g q))) = .ok false := ne_selfD (by
    have := okD_ints ((gearsL rs.length cs.length).map fun q => shI g q)
    rw [List.map_map] at this
    exact this)
  have mk : ∀ xs : List PyData, mthK "index" (.list xs) = .ok () := fun xs => rfl
  have tg : dIx (.dict (tabKV rs cs (gearsL rs.length cs.length))) (gT g) = .ok (gT (ratP rs cs g)) := tab_get hg
  have ln : dBlt .len [.list ((Gs.map (ratP rs cs)).map gT)] = .ok (.int Gs.length) := by
    show Res.ok (PyData.int _) = _
    rw [List.length_map, List.length_map]
  obtain ⟨u1, u2⟩ := next_up d hG hin hi hv
  obtain ⟨n1, n2⟩ := next_dn d hG hin hi hv
  -- the gear up
  obtain ⟨up, hup, w4⟩ : ∃ up, NextR rs cs g 1 up ∧ evS Γ (.ife (.cmp .Lt (.bin .Add (.var 9) (.int 1)) (.blt .len (.cons (.var 4) .nil))) (.cons (.asg 11 (.ix (.blt .minL (.cons E5_law .nil)) (.int 1))) .nil) .nil)
      [s0, s1, some (.v (bk rs cs)), some (.v (.dict (tabKV rs cs (gearsL rs.length cs.length)))), some (.v (.list ((Gs.map (ratP rs cs)).map gT))), some (.v (movD rs cs)), some (.v (gT g)), s7, s8, some (.v (.int (i : Int))), s10, some (.v (.none)), some (.v (.none)), s13, s14, s15] =
      .ok (.nx [s0, s1, some (.v (bk rs cs)), some (.v (.dict (tabKV rs cs (gearsL rs.length cs.length)))), some (.v (.list ((Gs.map (ratP rs cs)).map gT))), some (.v (movD rs cs)), some (.v (gT g)), s7, s8, some (.v (.int (i : Int))), s10, some (.v (up)), some (.v (.none)), s13, s14, s15]) := by
    by_cases q : i + 1 < Gs.length
    · have hb : Gs[i + 1]? = some Gs[i + 1] := List.getElem?_eq_getElem q
      generalize Gs[i + 1] = b at hb
      have e : ((i : Int) + 1).toNat = i + 1 := by omega
      obtain ⟨m, hm, w⟩ := near_run s0 s1 s7 s8 s10 s13 s14 Γ d hG hg (some (.v (bk rs cs))) s15 (i : Int) (.bin .Add (.var 9) (.int 1)) (k := (i : Int) + 1) (fun a6 a11 a12 a15 => by simp) (by omega) (by rw [e]; exact hb)
      refine ⟨gT m, u1 b hb m hm, ?_⟩
      have w := w (some (.v .none)) (some (.v .none))
      have qi : (i : Int) + 1 < Gs.length := by omega
      unfold E5_law
      generalize tabKV rs cs (gearsL rs.length cs.length) = KV at *
      generalize (Gs.map (ratP rs cs)).map gT = L at *
      generalize movD rs cs = M at *
      rw [ts_ife]
      have c : evE Γ (.cmp .Lt (.bin .Add (.var 9) (.int 1)) (.blt .len (.cons (.var 4) .nil))) [s0, s1, some (.v (bk rs cs)), some (.v (.dict KV)), some (.v (.list L)), some (.v (M)), some (.v (gT g)), s7, s8, some (.v (.int (i : Int))), s10, some (.v (.none)), some (.v (.none)), s13, s14, s15] = .ok (.bool true) := by simp [ln, qi]
      rw [c, bind_ok, asB_bool, bind_ok, if_pos rfl, tt_cons, ts_asg, w, bind_ok, thenS_nx, tt_nil]
      rfl
    · refine ⟨.none, u2 (by omega), ?_⟩
      have qi : ¬ (i : Int) + 1 < Gs.length := by omega
      generalize tabKV rs cs (gearsL rs.length cs.length) = KV at *
      generalize (Gs.map (ratP rs cs)).map gT = L at *
      generalize movD rs cs = M at *
      rw [ts_ife]
      have c : evE Γ (.cmp .Lt (.bin .Add (.var 9) (.int 1)) (.blt .len (.cons (.var 4) .nil))) [s0, s1, some (.v (bk rs cs)), some (.v (.dict KV)), some (.v (.list L)), some (.v (M)), some (.v (gT g)), s7, s8, some (.v (.int (i : Int))), s10, some (.v (.none)), some (.v (.none)), s13, s14, s15] = .ok (.bool false) := by simp [ln, qi]
      rw [c, bind_ok, asB_bool, bind_ok, if_neg (by decide), tt_nil]
  -- the gear down
  obtain ⟨dn, hdn, w5⟩ : ∃ dn, NextR rs cs g (-1) dn ∧ evS Γ (.ife (.cmp .Gt (.var 9) (.int 0)) (.cons (.asg 12 (.ix (.blt .minL (.cons E6_law .nil)) (.int 1))) .nil) .nil)
      [s0, s1, some (.v (bk rs cs)), some (.v (.dict (tabKV rs cs (gearsL rs.length cs.length)))), some (.v (.list ((Gs.map (ratP rs cs)).map gT))), some (.v (movD rs cs)), some (.v (gT g)), s7, s8, some (.v (.int (i : Int))), s10, some (.v (up)), some (.v (.none)), s13, s14, s15] =
      .ok (.nx [s0, s1, some (.v (bk rs cs)), some (.v (.dict (tabKV rs cs (gearsL rs.length cs.length)))), some (.v (.list ((Gs.map (ratP rs cs)).map gT))), some (.v (movD rs cs)), some (.v (gT g)), s7, s8, some (.v (.int (i : Int))), s10, some (.v (up)), some (.v (dn)), s13, s14, s15]) := by
    by_cases q : 1 ≤ i
    · have hb : Gs[i - 1]? = some Gs[i - 1] := List.getElem?_eq_getElem (by omega)
      generalize Gs[i - 1] = b at hb
      have e : ((i : Int) - 1).toNat = i - 1 := by omega
      obtain ⟨m, hm, w⟩ := near_run s0 s1 s7 s8 s10 s13 s14 Γ d hG hg (some (.v (bk rs cs))) s15 (i : Int) (.bin .Sub (.var 9) (.int 1)) (k := (i : Int) - 1) (fun a6 a11 a12 a15 => by simp) (by omega) (by rw [e]; exact hb)
      refine ⟨gT m, n1 q b hb m hm, ?_⟩
      have w := w (some (.v up)) (some (.v .none))
      have qi : 0 < (i : Int) := by omega
      unfold E6_law
      generalize tabKV rs cs (gearsL rs.length cs.length) = KV at *
      generalize (Gs.map (ratP rs cs)).map gT = L at *
      generalize movD rs cs = M at *
      rw [ts_ife]
      have c : evE Γ (.cmp .Gt (.var 9) (.int 0)) [s0, s1, some (.v (bk rs cs)), some (.v (.dict KV)), some (.v (.list L)), some (.v (M)), some (.v (gT g)), s7, s8, some (.v (.int (i : Int))), s10, some (.v (up)), some (.v (.none)), s13, s14, s15] = .ok (.bool true) := by simp; omega
      rw [c, bind_ok, asB_bool, bind_ok, if_pos rfl, tt_cons, ts_asg, w, bind_ok, thenS_nx, tt_nil]
      rfl
    · refine ⟨.none, n2 (by omega), ?_⟩
      generalize tabKV rs cs (gearsL rs.length cs.length) = KV at *
      generalize (Gs.map (ratP rs cs)).map gT = L at *
      generalize movD rs cs = M at *
      rw [ts_ife]
      have c : evE Γ (.cmp .Gt (.var 9) (.int 0)) [s0, s1, some (.v (bk rs cs)), some (.v (.dict KV)), some (.v (.list L)), some (.v (M)), some (.v (gT g)), s7, s8, some (.v (.int (i : Int))), s10, some (.v (up)), some (.v (.none)), s13, s14, s15] = .ok (.bool false) := by simp; omega
      rw [c, bind_ok, asB_bool, bind_ok, if_neg (by decide), tt_nil]
  have c2 := h2 _ _ (.mk rs cs g up d hin hup)
  have c3 := h3 _ _ (.mk rs cs g dn d hin hdn)
  have q2 := ne_selfD (next_okD hup)
  have q3 := ne_selfD (next_okD hdn)
  have e3 := e3 t9 t11 t12 (some (.v (.list ((Gs.map (ratP rs cs)).map gT)))) (some (.v (movD rs cs)))
  have e4 := e4 t9 t11 t12 (some (.v (bk rs cs))) (some (.v (.list ((Gs.map (ratP rs cs)).map gT))))
  generalize ((gearsL rs.length cs.length).map fun q => PyData.int (shI g q)) = SH at *
  generalize tabKV rs cs (gearsL rs.length cs.length) = KV at *
  generalize (Gs.map (ratP rs cs)).map gT = L at *
  generalize movD rs cs = M at *
  refine ⟨_, ?_, some (.v (gT g)), some (.v (.int (i : Int))), some (.v up), some (.v dn), rfl⟩
  rw [bt_one, bind_ok]
  simp only [setV_eq, st1]
  refine st_step (by simp [e3, e4, q1]; rfl) ?_
  refine st_step (by simp [tg, mk, ix]; rfl) ?_
  refine st_step (by simp; rfl) ?_
  refine st_step w4 ?_
  refine st_step w5 ?_
  refine st_step (by simp [c2, c3, q2, q3]; rfl) ?_
  rw [tt_nil]
end

end Cg

set_option maxHeartbeats 1000000
namespace Cg
open PySem PySem.Spec PyProof.Rows L2
/-! ### all climbs, forward -/
theorem plans_sub7 : ∀ {R : List (List (Int × Int))} {p : List (Int × Int)}, p ∈ plans R → ∀ g ∈ p, ∃ r ∈ R, g ∈ r
  | [], p, h, g, hg => by
    have h : p ∈ [[]] := h
    rw [List.mem_singleton] at h
    subst h
    cases hg
  | r :: R, p, h, g, hg => by
    obtain ⟨a, ha, q, hq, rfl⟩ := mem_plans.mp h
    rcases List.mem_cons.mp hg with rfl | hg
    · exact ⟨r, List.mem_cons_self, ha⟩
    · obtain ⟨r', h1, h2⟩ := plans_sub7 hq g hg
      exact ⟨r', List.mem_cons_of_mem _ h1, h2⟩
theorem grow_len (row : List (Int × Int)) (l : List (Int × List (Int × Int))) : (l.flatMap (growE row)).length = l.length * row.length := by
  induction l with
  | nil => simp
  | cons x l ih =>
    rw [List.flatMap_cons, List.length_append, ih, List.length_cons]
    unfold growE
    rw [List.length_map, Nat.succ_mul, Nat.add_comm]
theorem for_or {α : Type} (enc : α → PyData) {f : PyData → Ev → Res Fl} (P : List α → Ev → Prop) (r : PyData) : ∀ (rest done : List α) (e : Ev), P done e →
    (∀ (dn : List α) (x : α) (rst : List α) (e : Ev), done ++ rest = dn ++ x :: rst → P dn e → f (enc x) e = .ok (.rt r) ∨ ∃ e', f (enc x) e = .ok (.nx e') ∧ P (dn ++ [x]) e') →
    forR f (rest.map enc) e = .ok (.rt r) ∨ ∃ e', forR f (rest.map enc) e = .ok (.nx e') ∧ P (done ++ rest) e'
  | [], done, e, p, _ => .inr ⟨e, rfl, by simpa using p⟩
  | x :: rest, done, e, p, h => by
    rw [List.map_cons]
    unfold forR
    rcases h done x rest e rfl p with w | ⟨e', w, p'⟩
    · left
      rw [w]
      rfl
    · rw [w, bind_ok]
      rcases for_or enc P r rest (done ++ [x]) e' p' (fun dn y rst e he => h dn y rst e (by rw [← he]; simp)) with w2 | ⟨e2, w2, p2⟩
      · exact .inl w2
      · exact .inr ⟨e2, w2, by simpa using p2⟩
section
variable {rs cs : List Int} {Gs : List (Int × Int)}
theorem climb_in (Γ : Tb) (d : Drawn rs cs) {h : Int × Int} (hh : inG rs cs h) {x : Int × List (Int × Int)} (hx : ∀ g ∈ x.2, g ∈ gearsL rs.length cs.length) (xl : x.2.length ≤ 100) (L0 : List (Int × List (Int × Int))) (hl : L0.length ≤ 100000) (s0 s1 s2 s4 a6 s7 s9 s11 s12 s15 : Option Sl) :
    ∃ b6, evS Γ L2_law [s0, s1, s2, some (.v (.dict (tabKV rs cs (gearsL rs.length cs.length)))), s4, some (.v (movD rs cs)), a6, s7, some (.v (gT (ratP rs cs h))), s9, some (.l (L0.map encL)), s11, s12, some (.v (.int x.1)), some (.v (.list (x.2.map gT))), s15] =
      .ok (.nx [s0, s1, s2, some (.v (.dict (tabKV rs cs (gearsL rs.length cs.length)))), s4, some (.v (movD rs cs)), b6, s7, some (.v (gT (ratP rs cs h))), s9, some (.l ((L0 ++ growE (sameG rs cs h) x).map encL)), s11, s12, some (.v (.int x.1)), some (.v (.list (x.2.map gT))), s15]) := by
  have few := gears_few d.r2 d.c2
  have ts := tab_sorted rs cs rs.length cs.length (by omega)
  have ei : evI Γ (.val (.blt .sorted (.cons (.var 3) .nil))) [s0, s1, s2, some (.v (.dict (tabKV rs cs (gearsL rs.length cs.length)))), s4, some (.v (movD rs cs)), a6, s7, some (.v (gT (ratP rs cs h))), s9, some (.l (L0.map encL)), s11, s12, some (.v (.int x.1)), some (.v (.list (x.2.map gT))), s15] = .ok ((gearsL rs.length cs.length).map gT) := by
    generalize (gearsL rs.length cs.length).map gT = G at *
    simp [ts]
  suffices hs : ∃ e', evS Γ L2_law [s0, s1, s2, some (.v (.dict (tabKV rs cs (gearsL rs.length cs.length)))), s4, some (.v (movD rs cs)), a6, s7, some (.v (gT (ratP rs cs h))), s9, some (.l (L0.map encL)), s11, s12, some (.v (.int x.1)), some (.v (.list (x.2.map gT))), s15] = .ok (.nx e') ∧
      ∃ b6, e' = [s0, s1, s2, some (.v (.dict (tabKV rs cs (gearsL rs.length cs.length)))), s4, some (.v (movD rs cs)), b6, s7, some (.v (gT (ratP rs cs h))), s9, some (.l ((L0 ++ growE (sameG rs cs h) x).map encL)), s11, s12, some (.v (.int x.1)), some (.v (.list (x.2.map gT))), s15] by
    obtain ⟨_, w, b6, rfl⟩ := hs
    exact ⟨b6, w⟩
  unfold L2_law
  rw [ts_for, ei, bind_ok]
  unfold sameG
  refine for_doneL gT (fun dn e => ∃ b6, e = [s0, s1, s2, some (.v (.dict (tabKV rs cs (gearsL rs.length cs.length)))), s4, some (.v (movD rs cs)), b6, s7, some (.v (gT (ratP rs cs h))), s9, some (.l ((L0 ++ growE (dn.filter fun q => decide (vG rs cs q = vG rs cs h)) x).map encL)), s11, s12, some (.v (.int x.1)), some (.v (.list (x.2.map gT))), s15]) _ _ ⟨a6, by simp [growE]⟩ ?_
  rintro dn g rst _ hy ⟨t6, rfl⟩
  have hg : g ∈ gearsL rs.length cs.length := by rw [hy]; simp
  have hin : inG rs cs g := mem_gearsL.mp hg
  have tg : dIx (.dict (tabKV rs cs (gearsL rs.length cs.length))) (gT g) = .ok (gT (ratP rs cs g)) := tab_get hg
  have eq : dCmp .Eq (gT (ratP rs cs g)) (gT (ratP rs cs h)) = .ok (decide (vG rs cs g = vG rs cs h)) := by
    rw [eq_gTs]
    congr 1
    exact decide_eq_decide.mpr (ratP_eq d hin hh)
  have dl : dn.length ≤ 24 := by
    have := congrArg List.length hy
    rw [List.length_append, List.length_cons] at this
    omega
  have gl : (growE (dn.filter fun q => decide (vG rs cs q = vG rs cs h)) x).length ≤ 24 := by
    unfold growE
    rw [List.length_map]
    exact Nat.le_trans (List.length_filter_le _ _) dl
  by_cases c : vG rs cs g = vG rs cs h
  · have ef : growE ((dn ++ [g]).filter fun q => decide (vG rs cs q = vG rs cs h)) x = growE (dn.filter fun q => decide (vG rs cs q = vG rs cs h)) x ++ [(x.1 + lastI g x.2, x.2 ++ [g])] := by
      unfold growE
      rw [List.filter_append, List.map_append]
      simp [c]
    rw [ef, ← List.append_assoc, List.map_append (f := encL) (l₁ := L0 ++ _)]
    have z : ((L0 ++ growE (dn.filter fun q => decide (vG rs cs q = vG rs cs h)) x).map encL).length < sizeLine := app_ok (by rw [List.length_map, List.length_append]; omega)
    have ct := cat_l (xs := x.2.map gT) (ys := [gT g]) (by rw [List.length_map, List.length_singleton]; omega)
    have nn : dCmp .NotEq (.list (x.2.map gT)) (.list []) = .ok (!x.2.isEmpty) := ne_planNilL x.2
    have eL : encL (x.1 + lastI g x.2, x.2 ++ [g]) = .tuple [.int (x.1 + lastI g x.2), .list (x.2.map gT ++ [gT g])] := by
      unfold encL
      rw [List.map_append]
      rfl
    have last : ∀ q, x.2.getLast? = some q → dIx (.list (x.2.map gT)) (.int (-1)) = .ok (gT q) ∧ dIx (movD rs cs) (gT q) = .ok (moveD rs.length cs.length q) ∧ dIx (moveD rs.length cs.length q) (gT g) = .ok (.int (lastI g x.2)) := fun q hq => by
      have qm := hx q (List.mem_of_getLast? hq)
      refine ⟨dIx_lastL (by rw [List.getLast?_map, hq]; rfl), movD_ix qm, ?_⟩
      rw [mov_ix d qm hg]
      unfold lastI
      rw [hq]
      simp only
      rw [shI_comm]
    rw [List.map_singleton, eL]
    generalize (L0 ++ growE (dn.filter fun q => decide (vG rs cs q = vG rs cs h)) x).map encL = LL at *
    generalize tabKV rs cs (gearsL rs.length cs.length) = KV at *
    generalize movD rs cs = M at *
    rw [decide_eq_true c] at eq
    cases hxl : x.2.getLast? with
    | none =>
      have e0 : x.2 = [] := List.getLast?_eq_none_iff.mp hxl
      have e1 : lastI g x.2 = 0 := by unfold lastI; rw [hxl]
      rw [e1]
      rw [e0] at nn ct ⊢
      exact ⟨_, by simp at nn ct ⊢; simp [tg, eq, nn, ct, z]; rfl, _, rfl⟩
    | some q =>
      obtain ⟨l1, l2, l3⟩ := last q hxl
      have ne : x.2.isEmpty = false := by
        cases e : x.2 with
        | nil => rw [e] at hxl; cases hxl
        | cons => rfl
      rw [ne] at nn
      generalize x.2.map gT = XL at *
      generalize moveD rs.length cs.length q = N at *
      exact ⟨_, by simp [tg, eq, nn, ct, z, l1, l2, l3]; rfl, _, rfl⟩
  · have ef : ((dn ++ [g]).filter fun q => decide (vG rs cs q = vG rs cs h)) = dn.filter fun q => decide (vG rs cs q = vG rs cs h) := by
      rw [List.filter_append]
      simp [c]
    rw [ef]
    rw [decide_eq_false c] at eq
    generalize (L0 ++ growE (dn.filter fun q => decide (vG rs cs q = vG rs cs h)) x).map encL = LL at *
    generalize tabKV rs cs (gearsL rs.length cs.length) = KV at *
    generalize movD rs cs = M at *
    exact ⟨_, by simp [tg, eq]; rfl, _, rfl⟩
theorem climb_mid (Γ : Tb) (d : Drawn rs cs) {h : Int × Int} (hh : inG rs cs h) (F : List (Int × List (Int × Int))) (hF : ∀ x ∈ F, (∀ g ∈ x.2, g ∈ gearsL rs.length cs.length) ∧ x.2.length ≤ 100) (hl : F.length ≤ 3000) (s0 s1 s2 s4 a6 s9 s11 s12 a13 a14 s15 : Option Sl) :
    ∃ b6 b13 b14, evS Γ L3_law [s0, s1, s2, some (.v (.dict (tabKV rs cs (gearsL rs.length cs.length)))), s4, some (.v (movD rs cs)), a6, some (.v (.list (F.map encL))), some (.v (gT (ratP rs cs h))), s9, some (.l ([])), s11, s12, a13, a14, s15] =
      .ok (.nx [s0, s1, s2, some (.v (.dict (tabKV rs cs (gearsL rs.length cs.length)))), s4, some (.v (movD rs cs)), b6, some (.v (.list (F.map encL))), some (.v (gT (ratP rs cs h))), s9, some (.l ((F.flatMap (growE (sameG rs cs h))).map encL)), s11, s12, b13, b14, s15]) := by
  have few := gears_few d.r2 d.c2
  have sl : (sameG rs cs h).length ≤ 24 := Nat.le_trans (List.length_filter_le _ _) few
  have ei : evI Γ (.val (.var 7)) [s0, s1, s2, some (.v (.dict (tabKV rs cs (gearsL rs.length cs.length)))), s4, some (.v (movD rs cs)), a6, some (.v (.list (F.map encL))), some (.v (gT (ratP rs cs h))), s9, some (.l ([])), s11, s12, a13, a14, s15] = .ok (F.map encL) := by
    generalize F.map encL = FL at *
    simp [itemsOf]
  suffices hs : ∃ e', evS Γ L3_law [s0, s1, s2, some (.v (.dict (tabKV rs cs (gearsL rs.length cs.length)))), s4, some (.v (movD rs cs)), a6, some (.v (.list (F.map encL))), some (.v (gT (ratP rs cs h))), s9, some (.l ([])), s11, s12, a13, a14, s15] = .ok (.nx e') ∧
      ∃ b6 b13 b14, e' = [s0, s1, s2, some (.v (.dict (tabKV rs cs (gearsL rs.length cs.length)))), s4, some (.v (movD rs cs)), b6, some (.v (.list (F.map encL))), some (.v (gT (ratP rs cs h))), s9, some (.l ((F.flatMap (growE (sameG rs cs h))).map encL)), s11, s12, b13, b14, s15] by
    obtain ⟨_, w, b6, b13, b14, rfl⟩ := hs
    exact ⟨b6, b13, b14, w⟩
  unfold L3_law
  rw [ts_for, ei, bind_ok]
  refine for_doneL encL (fun dn e => ∃ b6 b13 b14, e = [s0, s1, s2, some (.v (.dict (tabKV rs cs (gearsL rs.length cs.length)))), s4, some (.v (movD rs cs)), b6, some (.v (.list (F.map encL))), some (.v (gT (ratP rs cs h))), s9, some (.l ((dn.flatMap (growE (sameG rs cs h))).map encL)), s11, s12, b13, b14, s15]) _ _ ⟨_, _, _, rfl⟩ ?_
  rintro dn x rst _ hy ⟨t6, t13, t14, rfl⟩
  obtain ⟨x1, x2⟩ := hF x (by rw [hy]; simp)
  have dl : dn.length ≤ 3000 := by
    have := congrArg List.length hy
    rw [List.length_append, List.length_cons] at this
    omega
  have gl : (dn.flatMap (growE (sameG rs cs h))).length ≤ 100000 := by
    rw [grow_len]
    have := Nat.mul_le_mul dl sl
    omega
  obtain ⟨b6, w⟩ := climb_in Γ d hh x1 x2 (dn.flatMap (growE (sameG rs cs h))) gl s0 s1 s2 s4 t6 (some (.v (.list (F.map encL)))) s9 s11 s12 s15
  have ef : (dn ++ [x]).flatMap (growE (sameG rs cs h)) = dn.flatMap (growE (sameG rs cs h)) ++ growE (sameG rs cs h) x := by
    rw [List.flatMap_append]
    simp
  rw [ef]
  refine ⟨_, ?_, b6, some (.v (.int x.1)), some (.v (.list (x.2.map gT))), rfl⟩
  have b : bindT (.tup [13, 14]) (encL x) [s0, s1, s2, some (.v (.dict (tabKV rs cs (gearsL rs.length cs.length)))), s4, some (.v (movD rs cs)), t6, some (.v (.list (F.map encL))), some (.v (gT (ratP rs cs h))), s9, some (.l ((dn.flatMap (growE (sameG rs cs h))).map encL)), s11, s12, t13, t14, s15] =
    .ok [s0, s1, s2, some (.v (.dict (tabKV rs cs (gearsL rs.length cs.length)))), s4, some (.v (movD rs cs)), t6, some (.v (.list (F.map encL))), some (.v (gT (ratP rs cs h))), s9, some (.l ((dn.flatMap (growE (sameG rs cs h))).map encL)), s11, s12, some (.v (.int x.1)), some (.v (.list (x.2.map gT))), s15] := rfl
  rw [b, bind_ok, tt_cons, w, thenS_nx, tt_nil]
theorem allC_ok (d : Drawn rs cs) {dn : List (Int × Int)} (hd : dn.length ≤ 24) : ∀ x ∈ allC (climbR rs cs dn), (∀ g ∈ x.2, g ∈ gearsL rs.length cs.length) ∧ x.2.length ≤ 100 := fun x hx => by
  unfold allC at hx
  obtain ⟨p, hp, rfl⟩ := List.mem_map.mp hx
  refine ⟨fun g hg => ?_, ?_⟩
  · obtain ⟨r, hr, hgr⟩ := plans_sub7 hp g hg
    unfold climbR at hr
    obtain ⟨h, _, rfl⟩ := List.mem_map.mp hr
    exact (List.mem_filter.mp hgr).1
  · have := plans_len hp
    unfold climbR at this
    rw [List.length_map] at this
    show p.length ≤ 100
    omega
theorem climb_out (Γ : Tb) (d : Drawn rs cs) (hG : IsLad rs cs Gs) (lG : Gs.length ≤ 24) (s0 s1 s2 a6 a8 s9 a10 s11 s12 a13 a14 s15 : Option Sl) :
    evS Γ L4_law [s0, s1, s2, some (.v (.dict (tabKV rs cs (gearsL rs.length cs.length)))), some (.v (.list ((Gs.map (ratP rs cs)).map gT))), some (.v (movD rs cs)), a6, some (.v (.list [encL (0, [])])), a8, s9, a10, s11, s12, a13, a14, s15] = .ok (.rt (.bool true)) ∨
    ∃ b6 b8 b10 b13 b14, evS Γ L4_law [s0, s1, s2, some (.v (.dict (tabKV rs cs (gearsL rs.length cs.length)))), some (.v (.list ((Gs.map (ratP rs cs)).map gT))), some (.v (movD rs cs)), a6, some (.v (.list [encL (0, [])])), a8, s9, a10, s11, s12, a13, a14, s15] =
      .ok (.nx [s0, s1, s2, some (.v (.dict (tabKV rs cs (gearsL rs.length cs.length)))), some (.v (.list ((Gs.map (ratP rs cs)).map gT))), some (.v (movD rs cs)), b6, some (.v (.list ((allC (climbR rs cs Gs)).map encL))), b8, s9, b10, s11, s12, b13, b14, s15]) := by
  have ei : evI Γ (.val (.var 4)) [s0, s1, s2, some (.v (.dict (tabKV rs cs (gearsL rs.length cs.length)))), some (.v (.list ((Gs.map (ratP rs cs)).map gT))), some (.v (movD rs cs)), a6, some (.v (.list [encL (0, [])])), a8, s9, a10, s11, s12, a13, a14, s15] = .ok (Gs.map fun h => gT (ratP rs cs h)) := by
    have e : (Gs.map fun h => gT (ratP rs cs h)) = (Gs.map (ratP rs cs)).map gT := by rw [List.map_map]; rfl
    rw [e]
    generalize (Gs.map (ratP rs cs)).map gT = FL at *
    simp [itemsOf]
  unfold L4_law
  rw [ts_for, ei, bind_ok]
  have main := for_or (fun h => gT (ratP rs cs h)) (f := fun x e => (bindT (.one 8) x e).bind fun e' => evSs Γ (.cons (.own 10 (.lst .nil)) (.cons L3_law (.cons (.frz 10) (.cons (.asg 7 (.var 10)) (.cons (.ife (.cmp .Gt (.blt .len (.cons (.var 7) .nil)) (.int 3000)) (.cons (.ret (.bl true)) .nil) .nil) .nil))))) e')
    (fun dn e => (allC (climbR rs cs dn)).length ≤ 3000 ∧ ∃ b6 b8 b10 b13 b14, e = [s0, s1, s2, some (.v (.dict (tabKV rs cs (gearsL rs.length cs.length)))), some (.v (.list ((Gs.map (ratP rs cs)).map gT))), some (.v (movD rs cs)), b6, some (.v (.list ((allC (climbR rs cs dn)).map encL))), b8, s9, b10, s11, s12, b13, b14, s15]) (.bool true) Gs []
    [s0, s1, s2, some (.v (.dict (tabKV rs cs (gearsL rs.length cs.length)))), some (.v (.list ((Gs.map (ratP rs cs)).map gT))), some (.v (movD rs cs)), a6, some (.v (.list [encL (0, [])])), a8, s9, a10, s11, s12, a13, a14, s15] ⟨(by show 1 ≤ 3000; decide), _, _, _, _, _, rfl⟩ ?_
  · rcases main with w | ⟨_, w, _, b6, b8, b10, b13, b14, rfl⟩
    · exact .inl w
    · exact .inr ⟨b6, b8, b10, b13, b14, w⟩
  rintro dn h rst _ hy ⟨hl, t6, t8, t10, t13, t14, rfl⟩
  rw [List.nil_append] at hy
  have hin : inG rs cs h := hG.ins h (by rw [hy]; simp)
  have dl : dn.length ≤ 24 := by
    have := congrArg List.length hy
    rw [List.length_append, List.length_cons] at this
    omega
  have hF := allC_ok d dl
  have er : allC (climbR rs cs (dn ++ [h])) = (allC (climbR rs cs dn)).flatMap (growE (sameG rs cs h)) := by
    rw [allC_snoc]
    unfold climbR
    rw [List.map_append]
    rfl
  rw [er]
  generalize allC (climbR rs cs dn) = F at *
  obtain ⟨b6, b13, b14, w⟩ := climb_mid Γ d hin F hF hl s0 s1 s2 (some (.v (.list ((Gs.map (ratP rs cs)).map gT)))) t6 s9 s11 s12 t13 t14 s15
  have ln : dBlt .len [.list ((F.flatMap (growE (sameG rs cs h))).map encL)] = .ok (.int (F.flatMap (growE (sameG rs cs h))).length) := by
    show Res.ok (PyData.int _) = _
    rw [List.length_map]
  generalize F.flatMap (growE (sameG rs cs h)) = F2 at *
  generalize tabKV rs cs (gearsL rs.length cs.length) = KV at *
  generalize (Gs.map (ratP rs cs)).map gT = L at *
  generalize movD rs cs = M at *
  generalize F.map encL = FL at *
  generalize hF2 : F2.map encL = FL2 at *
  have pre : ∀ r, evS Γ (.ife (.cmp .Gt (.blt .len (.cons (.var 7) .nil)) (.int 3000)) (.cons (.ret (.bl true)) .nil) .nil) [s0, s1, s2, some (.v (.dict KV)), some (.v (.list L)), some (.v (M)), b6, some (.v (.list FL2)), some (.v (gT (ratP rs cs h))), s9, some (.v (.list FL2)), s11, s12, b13, b14, s15] = r →
      ((bindT (.one 8) (gT (ratP rs cs h)) [s0, s1, s2, some (.v (.dict KV)), some (.v (.list L)), some (.v (M)), t6, some (.v (.list FL)), t8, s9, t10, s11, s12, t13, t14, s15]).bind fun e' => evSs Γ (.cons (.own 10 (.lst .nil)) (.cons L3_law (.cons (.frz 10) (.cons (.asg 7 (.var 10)) (.cons (.ife (.cmp .Gt (.blt .len (.cons (.var 7) .nil)) (.int 3000)) (.cons (.ret (.bl true)) .nil) .nil) .nil))))) e') = r := fun r hr => by
    rw [bt_one, bind_ok]
    simp only [setV_eq, st1]
    refine st_step (by simp; rfl) ?_
    refine st_step w ?_
    refine st_step (by simp; rfl) ?_
    refine st_step (by simp; rfl) ?_
    rw [← hr, tt_cons]
    cases evS Γ (.ife (.cmp .Gt (.blt .len (.cons (.var 7) .nil)) (.int 3000)) (.cons (.ret (.bl true)) .nil) .nil) [s0, s1, s2, some (.v (.dict KV)), some (.v (.list L)), some (.v (M)), b6, some (.v (.list FL2)), some (.v (gT (ratP rs cs h))), s9, some (.v (.list FL2)), s11, s12, b13, b14, s15] with
    | no => rfl
    | exc k => rfl
    | ok fl => cases fl with
      | nx e => rw [thenS_nx, tt_nil]
      | rt v => rfl
  by_cases c : (3000 : Int) < (F2.length : Int)
  · left
    exact pre _ (by simp [ln, c])
  · right
    refine ⟨[s0, s1, s2, some (.v (.dict KV)), some (.v (.list L)), some (.v (M)), b6, some (.v (.list FL2)), some (.v (gT (ratP rs cs h))), s9, some (.v (.list FL2)), s11, s12, b13, b14, s15], pre _ (by simp [ln, c]), by omega, _, _, _, _, _, rfl⟩
end

end Cg

set_option maxHeartbeats 1000000
namespace Cg
open PySem PySem.Spec PyProof.Rows L2
/-! ### the law -/
theorem min_allC {rs cs : List Int} {Gs : List (Int × Int)} (hG : IsLad rs cs Gs) : ∃ m, IsMin (climbR rs cs Gs) m ∧ dBlt .minL [.list ((allC (climbR rs cs Gs)).map encL)] = .ok (encL m) := by
  have ne : allC (climbR rs cs Gs) ≠ [] := fun e => by
    unfold allC at e
    rw [List.map_eq_nil_iff] at e
    have h := plans_none.mp e
    unfold climbR at h
    obtain ⟨g, hg, hs⟩ := List.mem_map.mp h
    exact same_ne (hG.ins g hg) hs
  obtain ⟨m, hm, mn, ml⟩ := min_planL ne
  unfold allC at hm
  obtain ⟨p, hp, rfl⟩ := List.mem_map.mp hm
  refine ⟨_, ⟨hp, rfl, fun q hq => ml _ ?_⟩, mn⟩
  unfold allC
  exact List.mem_map.mpr ⟨q, hq, rfl⟩
theorem step07 (Γ : Tb) (k1 k2 k3 k4 k5 k6 k7 k8 k9 : Nat) (h1 : At Γ k1 P_shifts) (h2 : At Γ k2 P_higher_gear) (h3 : At Γ k3 P_lower_gear) (h4 : At Γ k4 P_fewest_shifts) (h5 : At Γ k5 P_best_climb) (h6 : At Γ k6 P__law_ride) (h7 : At Γ k7 P__law_table) (h8 : At Γ k8 P__law_rising) (h9 : At Γ k9 P__law_moves) {ns : List Int} (few : ns.length ≤ 63) (j : Nat) (hj : j < 2) (t1 t2 t3 t4 t5 t6 t7 t8 t9 t10 t11 t12 t13 t14 : Option Sl)
    {B : Ss} (hB : B = (.cons (.asg 2 (.call k6 (.cons (.var 0) (.cons (.bin .Mult (.int 30) (.var 1)) .nil))))
    (.cons (.asg 3 (.call k7 (.cons (.var 2) .nil)))
    (.cons (.asg 4 (.call k8 (.cons E1_law .nil)))
    (.cons (.asg 5 (.blt .dict (.cons (E2_law k9) .nil)))
    (.cons (L1_law k1 k2 k3)
    (.cons (.asg 7 (.lst (.cons (.tup (.cons (.int 0) (.cons (.lst .nil) .nil))) .nil)))
    (.cons L4_law
    (.cons (.ife (.or (.cmp .NotEq (.call k4 (.cons (.var 2) .nil)) (.ix (.blt .minL (.cons (.var 7) .nil)) (.int 0))) (.or1 (.cmp .NotEq (.call k5 (.cons (.var 2) .nil)) (.ix (.blt .minL (.cons (.var 7) .nil)) (.int 1)))))
    (.cons (.ret (.bl false))
    .nil)
    .nil)
    .nil))))))))) :
    ((bindT (.one 1) (.int (j : Int)) [some (.v (.list (ns.map .int))), t1, t2, t3, t4, t5, t6, t7, t8, t9, t10, t11, t12, t13, t14, none]).bind fun e' => evSs Γ B e') = .ok (.rt (.bool true)) ∨
    ∃ e', ((bindT (.one 1) (.int (j : Int)) [some (.v (.list (ns.map .int))), t1, t2, t3, t4, t5, t6, t7, t8, t9, t10, t11, t12, t13, t14, none]).bind fun e' => evSs Γ B e') = .ok (.nx e') ∧
      ∃ t1 t2 t3 t4 t5 t6 t7 t8 t9 t10 t11 t12 t13 t14, e' = [some (.v (.list (ns.map .int))), t1, t2, t3, t4, t5, t6, t7, t8, t9, t10, t11, t12, t13, t14, none] := by
  have m := bn_mulk 30 (j : Int) (smallI_few (by decide) (by decide))
  have cr := h6 _ _ (.mk ns (30 * (j : Int)) few (by omega) (by omega))
  have d := ride_drawn ns (30 * (j : Int))
  generalize rideR ns (30 * (j : Int)) = rs at cr d
  generalize rideC ns (30 * (j : Int)) = cs at cr d
  have ct := h7 _ _ (.mk rs cs d)
  obtain ⟨Gs, hG, lG⟩ := lad_exists d
  have few24 := gears_few d.r2 d.c2
  have hI : ∀ g ∈ gearsL rs.length cs.length, inG rs cs g := fun g hg => mem_gearsL.mp hg
  have hGO : IsLadOf rs cs (gearsL rs.length cs.length) Gs := ⟨fun g hg => mem_gearsL.mpr (hG.ins g hg), hG.asc, fun g hg => hG.all g (hI g hg)⟩
  have cri := h8 _ _ (.mk rs cs _ Gs d hI (by omega) hGO)
  have E1 : ∀ a1 a4 a5 a6 a7 a8 a9 a10 a11 a12 a13 a14, evE Γ E1_law [some (.v (.list (ns.map .int))), a1, some (.v (bk rs cs)), some (.v (.dict (tabKV rs cs (gearsL rs.length cs.length)))), a4, a5, a6, a7, a8, a9, a10, a11, a12, a13, a14, none] = .ok (.list (((gearsL rs.length cs.length).map (ratP rs cs)).map gT)) := by
    intros
    have ts := tab_sorted rs cs rs.length cs.length (by omega)
    have tg : ∀ g ∈ gearsL rs.length cs.length, dIx (.dict (tabKV rs cs (gearsL rs.length cs.length))) (gT g) = .ok (gT (ratP rs cs g)) := fun g hg => tab_get hg
    rw [List.map_map]
    generalize tabKV rs cs (gearsL rs.length cs.length) = KV at *
    exact lc_enc gT (g := fun g => gT (ratP rs cs g)) (by simp [ts]) (fun g hg => by simp [tg g hg]) (by omega)
  have e2 := E2_run (some (.v (.list (ns.map .int)))) (some (.v (.int (j : Int)))) t7 t8 t9 t10 t11 t12 t13 t14 Γ k9 h9 d (some (.v (.list ((Gs.map (ratP rs cs)).map gT)))) t5 t6 none
  obtain ⟨b6, b9, b11, b12, w1⟩ := L1_run Γ k1 k2 k3 h1 h2 h3 d hG (some (.v (.list (ns.map .int)))) (some (.v (.int (j : Int)))) t7 t8 t10 t13 t14 none t6 t9 t11 t12
  have w4 := climb_out Γ d hG lG (some (.v (.list (ns.map .int)))) (some (.v (.int (j : Int)))) (some (.v (bk rs cs))) b6 t8 b9 t10 b11 b12 t13 t14 none
  obtain ⟨x, hx, mn⟩ := min_allC hG
  have c4 := h4 _ _ (.mk rs cs Gs x d hG hx)
  have c5 := h5 _ _ (.mk rs cs Gs x d hG hx)
  have i0 : dIx (encL x) (.int 0) = .ok (.int x.1) := ix_t0 _ _
  have i1 : dIx (encL x) (.int 1) = .ok (.list (x.2.map gT)) := ix_t1 _ _ _
  have q1 : dCmp .NotEq (.int x.1) (.int x.1) = .ok false := ne_selfD rfl
  have q2 : dCmp .NotEq (.list (x.2.map gT)) (.list (x.2.map gT)) = .ok false := ne_selfD (okD_gears x.2)
  have eL : PyData.tuple [.int 0, .list []] = encL (0, []) := rfl
  generalize ((gearsL rs.length cs.length).map (ratP rs cs)).map gT = AW at *
  generalize tabKV rs cs (gearsL rs.length cs.length) = KV at *
  generalize (Gs.map (ratP rs cs)).map gT = L at *
  generalize movD rs cs = M at *
  generalize (allC (climbR rs cs Gs)).map encL = AC at *
  generalize x.2.map gT = XL at *
  generalize hEX : encL x = EX at *
  have pre : ∀ r, evSs Γ (.cons L4_law
    (.cons (.ife (.or (.cmp .NotEq (.call k4 (.cons (.var 2) .nil)) (.ix (.blt .minL (.cons (.var 7) .nil)) (.int 0))) (.or1 (.cmp .NotEq (.call k5 (.cons (.var 2) .nil)) (.ix (.blt .minL (.cons (.var 7) .nil)) (.int 1)))))
    (.cons (.ret (.bl false))
    .nil)
    .nil)
    .nil)) [some (.v (.list (ns.map .int))), some (.v (.int (j : Int))), some (.v (bk rs cs)), some (.v (.dict KV)), some (.v (.list L)), some (.v (M)), b6, some (.v (.list [encL (0, [])])), t8, b9, t10, b11, b12, t13, t14, none] = r →
      ((bindT (.one 1) (.int (j : Int)) [some (.v (.list (ns.map .int))), t1, t2, t3, t4, t5, t6, t7, t8, t9, t10, t11, t12, t13, t14, none]).bind fun e' => evSs Γ B e') = r := fun r hr => by
    rw [hB, bt_one, bind_ok]
    simp only [setV_eq, st1]
    refine st_step (by simp [m, cr]; rfl) ?_
    refine st_step (by simp [ct]; rfl) ?_
    refine st_step (by simp [E1, cri]; rfl) ?_
    refine st_step (by rw [ts_asg, e2]; rfl) ?_
    refine st_step w1 ?_
    refine st_step (by simp [eL]) hr
  rcases w4 with w4 | ⟨c6, c8, c10, c13, c14, w4⟩
  · left
    refine pre _ ?_
    rw [tt_cons, w4]
    rfl
  · right
    refine ⟨[some (.v (.list (ns.map .int))), some (.v (.int (j : Int))), some (.v (bk rs cs)), some (.v (.dict KV)), some (.v (.list L)), some (.v (M)), c6, some (.v (.list AC)), c8, b9, c10, b11, b12, c13, c14, none], pre _ (st_step w4 (st_step (e' := [some (.v (.list (ns.map .int))), some (.v (.int (j : Int))), some (.v (bk rs cs)), some (.v (.dict KV)), some (.v (.list L)), some (.v (M)), c6, some (.v (.list AC)), c8, b9, c10, b11, b12, c13, c14, none]) ?_ (tt_nil _ _))), _, _, _, _, _, _, _, _, _, _, _, _, _, _, rfl⟩
    simp [c4, c5, mn, i0, i1, q1, q2]
theorem lad07 : IsLad [30, 40] [12, 15, 20] [(0, 2), (0, 1), (0, 0), (1, 1), (1, 0)] := by
  refine ⟨by decide, by decide, fun g hg => ?_⟩
  have h : g ∈ gearsL 2 3 := mem_gearsL.mpr hg
  have al : ∀ g ∈ gearsL 2 3, ∃ h ∈ [((0 : Int), (2 : Int)), (0, 1), (0, 0), (1, 1), (1, 0)], vG [30, 40] [12, 15, 20] h = vG [30, 40] [12, 15, 20] g := by decide
  exact al g h
theorem min07 : IsMin (climbR [30, 40] [12, 15, 20] [(0, 2), (0, 1), (0, 0), (1, 1), (1, 0)]) (5, [(0, 2), (0, 1), (0, 0), (1, 1), (1, 0)]) := by
  refine ⟨by decide, by decide, by decide⟩
theorem run_law07 (Γ : Tb) (k1 k2 k3 k4 k5 k6 k7 k8 k9 : Nat) (h1 : At Γ k1 P_shifts) (h2 : At Γ k2 P_higher_gear) (h3 : At Γ k3 P_lower_gear) (h4 : At Γ k4 P_fewest_shifts) (h5 : At Γ k5 P_best_climb) (h6 : At Γ k6 P__law_ride) (h7 : At Γ k7 P__law_table) (h8 : At Γ k8 P__law_rising) (h9 : At Γ k9 P__law_moves) (ns : List Int) (few : ns.length ≤ 63) :
    runB Γ 16 (B_law k1 k2 k3 k4 k5 k6 k7 k8 k9) [.list (ns.map .int)] = .ok (.bool true) := by
  have sm2 : small62 2 = true := small62_few (by decide) (by decide)
  have ei : evI Γ (.rng1 (.int 2)) [some (.v (.list (ns.map .int))), none, none, none, none, none, none, none, none, none, none, none, none, none, none, none] = .ok ((List.range 2).map fun (k : Nat) => .int (k : Int)) := by
    have e : ((List.range 2).map fun (k : Nat) => PyData.int (k : Int)) = rangeD 0 2 := (rangeD_map 2).symm
    rw [e]
    simp [sm2]
  have main : evS Γ (L5_law k1 k2 k3 k4 k5 k6 k7 k8 k9) [some (.v (.list (ns.map .int))), none, none, none, none, none, none, none, none, none, none, none, none, none, none, none] = .ok (.rt (.bool true)) ∨ ∃ e', evS Γ (L5_law k1 k2 k3 k4 k5 k6 k7 k8 k9) [some (.v (.list (ns.map .int))), none, none, none, none, none, none, none, none, none, none, none, none, none, none, none] = .ok (.nx e') ∧
      ∃ t1 t2 t3 t4 t5 t6 t7 t8 t9 t10 t11 t12 t13 t14, e' = [some (.v (.list (ns.map .int))), t1, t2, t3, t4, t5, t6, t7, t8, t9, t10, t11, t12, t13, t14, none] := by
    unfold L5_law
    rw [ts_for, ei, bind_ok]
    exact for_or (fun (k : Nat) => PyData.int (k : Int)) (fun _ e => ∃ t1 t2 t3 t4 t5 t6 t7 t8 t9 t10 t11 t12 t13 t14, e = [some (.v (.list (ns.map .int))), t1, t2, t3, t4, t5, t6, t7, t8, t9, t10, t11, t12, t13, t14, none]) (.bool true) (List.range 2) [] _ ⟨_, _, _, _, _, _, _, _, _, _, _, _, _, _, rfl⟩ (fun dn j rst e hy he => by
      obtain ⟨t1, t2, t3, t4, t5, t6, t7, t8, t9, t10, t11, t12, t13, t14, rfl⟩ := he
      have hj : j ∈ List.range 2 := by
        rw [List.nil_append] at hy
        rw [hy]
        simp
      exact step07 Γ k1 k2 k3 k4 k5 k6 k7 k8 k9 h1 h2 h3 h4 h5 h6 h7 h8 h9 few j (List.mem_range.mp hj) t1 t2 t3 t4 t5 t6 t7 t8 t9 t10 t11 t12 t13 t14 rfl)
  have d0 : Drawn [30, 40] [12, 15, 20] := ⟨by decide, by decide, by decide, by decide, by decide, by decide, by decide, by decide⟩
  have c := h5 _ _ (.mk [30, 40] [12, 15, 20] _ _ d0 lad07 min07)
  have e3 : bk [30, 40] [12, 15, 20] = .tuple [.tuple [.int 30, .int 40], .tuple [.int 12, .int 15, .int 20]] := rfl
  have e4 : ([((0 : Int), (2 : Int)), (0, 1), (0, 0), (1, 1), (1, 0)].map gT) = [.tuple [.int 0, .int 2], .tuple [.int 0, .int 1], .tuple [.int 0, .int 0], .tuple [.int 1, .int 1], .tuple [.int 1, .int 0]] := rfl
  simp only at c
  have q := eq_self (okD_gears [((0 : Int), (2 : Int)), (0, 1), (0, 0), (1, 1), (1, 0)])
  rw [e4] at c q
  rw [e3] at c
  rcases main with w | ⟨_, w, t1, t2, t3, t4, t5, t6, t7, t8, t9, t10, t11, t12, t13, t14, rfl⟩
  · simp [runB, startV, B_law, w]
  · simp [runB, startV, B_law, w, c, q]

end Cg

set_option maxHeartbeats 0
namespace Cg
open PySem PySem.Spec PyProof.Rows L2
noncomputable section
def top (i : Nat) : Stmt := PySem.Challenge.pw_cogrings_k07_whole_shifts.main.body.getD i (.Pass ⟨0, 0, 0, 0⟩)
def d_is_int : He.DefD := ⟨("is_int", none), "is_int", "is_int", defArgs (top 11), defBody (top 11), defScope (top 11), [], []⟩
def d_are_teeth : He.DefD := ⟨("are_teeth", none), "are_teeth", "are_teeth", defArgs (top 12), defBody (top 12), defScope (top 12), [], []⟩
def d_are_rings : He.DefD := ⟨("are_rings", none), "are_rings", "are_rings", defArgs (top 13), defBody (top 13), defScope (top 13), [], []⟩
def d_are_cogs : He.DefD := ⟨("are_cogs", none), "are_cogs", "are_cogs", defArgs (top 14), defBody (top 14), defScope (top 14), [], []⟩
def d_is_bike : He.DefD := ⟨("is_bike", none), "is_bike", "is_bike", defArgs (top 15), defBody (top 15), defScope (top 15), [], []⟩
def d_has_gear : He.DefD := ⟨("has_gear", none), "has_gear", "has_gear", defArgs (top 16), defBody (top 16), defScope (top 16), [], []⟩
def d_check_bike : He.DefD := ⟨("check_bike", none), "check_bike", "check_bike", defArgs (top 17), defBody (top 17), defScope (top 17), [], []⟩
def d_check_gear : He.DefD := ⟨("check_gear", none), "check_gear", "check_gear", defArgs (top 18), defBody (top 18), defScope (top 18), [], []⟩
def d_divisor : He.DefD := ⟨("divisor", none), "divisor", "divisor", defArgs (top 19), defBody (top 19), defScope (top 19), [], []⟩
def d_reduced : He.DefD := ⟨("reduced", none), "reduced", "reduced", defArgs (top 20), defBody (top 20), defScope (top 20), [], []⟩
def d_find_ratio : He.DefD := ⟨("find_ratio", none), "find_ratio", "find_ratio", defArgs (top 21), defBody (top 21), defScope (top 21), [], []⟩
def d_all_gears : He.DefD := ⟨("all_gears", none), "all_gears", "all_gears", defArgs (top 22), defBody (top 22), defScope (top 22), [], []⟩
def d_value_key : He.DefD := ⟨("value_key", none), "value_key", "value_key", defArgs (top 23), defBody (top 23), defScope (top 23), [], []⟩
def d_find_gears : He.DefD := ⟨("find_gears", none), "find_gears", "find_gears", defArgs (top 24), defBody (top 24), defScope (top 24), [], []⟩
def d_find_ladder : He.DefD := ⟨("find_ladder", none), "find_ladder", "find_ladder", defArgs (top 26), defBody (top 26), defScope (top 26), [], []⟩
def d_find_with : He.DefD := ⟨("find_with", none), "find_with", "find_with", defArgs (top 27), defBody (top 27), defScope (top 27), [], []⟩
def d_count_shifts : He.DefD := ⟨("count_shifts", none), "count_shifts", "count_shifts", defArgs (top 29), defBody (top 29), defScope (top 29), [], []⟩
def d_shifts : He.DefD := ⟨("shifts", none), "shifts", "shifts", defArgs (top 30), defBody (top 30), defScope (top 30), [], []⟩
def d_nearest_gear : He.DefD := ⟨("nearest_gear", none), "nearest_gear", "nearest_gear", defArgs (top 31), defBody (top 31), defScope (top 31), [], []⟩
def d_higher_gear : He.DefD := ⟨("higher_gear", none), "higher_gear", "higher_gear", defArgs (top 32), defBody (top 32), defScope (top 32), [], []⟩
def d_lower_gear : He.DefD := ⟨("lower_gear", none), "lower_gear", "lower_gear", defArgs (top 33), defBody (top 33), defScope (top 33), [], []⟩
def d_find_climb : He.DefD := ⟨("find_climb", none), "find_climb", "find_climb", defArgs (top 34), defBody (top 34), defScope (top 34), [], []⟩
def d_fewest_shifts : He.DefD := ⟨("fewest_shifts", none), "fewest_shifts", "fewest_shifts", defArgs (top 35), defBody (top 35), defScope (top 35), [], []⟩
def d_best_climb : He.DefD := ⟨("best_climb", none), "best_climb", "best_climb", defArgs (top 36), defBody (top 36), defScope (top 36), [], []⟩
def d__law_pick : He.DefD := ⟨("_law_pick", none), "_law_pick", "_law_pick", defArgs (top 38), defBody (top 38), defScope (top 38), [], []⟩
def d__law_ride : He.DefD := ⟨("_law_ride", none), "_law_ride", "_law_ride", defArgs (top 39), defBody (top 39), defScope (top 39), [], []⟩
def d__law_part : He.DefD := ⟨("_law_part", none), "_law_part", "_law_part", defArgs (top 40), defBody (top 40), defScope (top 40), [], []⟩
def d__law_table : He.DefD := ⟨("_law_table", none), "_law_table", "_law_table", defArgs (top 41), defBody (top 41), defScope (top 41), [], []⟩
def d__law_less : He.DefD := ⟨("_law_less", none), "_law_less", "_law_less", defArgs (top 42), defBody (top 42), defScope (top 42), [], []⟩
def d__law_rising : He.DefD := ⟨("_law_rising", none), "_law_rising", "_law_rising", defArgs (top 43), defBody (top 43), defScope (top 43), [], []⟩
def d__law_moves : He.DefD := ⟨("_law_moves", none), "_law_moves", "_law_moves", defArgs (top 44), defBody (top 44), defScope (top 44), [], []⟩
def d_law : He.DefD := ⟨("law", none), "law", "law", defArgs (top 45), defBody (top 45), defScope (top 45), [], []⟩
def fn : List He.DefD := [d_is_int, d_are_teeth, d_are_rings, d_are_cogs, d_is_bike, d_has_gear, d_check_bike, d_check_gear, d_divisor, d_reduced, d_find_ratio, d_all_gears, d_value_key, d_find_gears, d_find_ladder, d_find_with, d_count_shifts, d_shifts, d_nearest_gear, d_higher_gear, d_lower_gear, d_find_climb, d_fewest_shifts, d_best_climb, d__law_pick, d__law_ride, d__law_part, d__law_table, d__law_less, d__law_rising, d__law_moves, d_law]
def fa0 : List He.Fa := [.glo "is_int", .glo "are_teeth", .glo "are_rings", .glo "are_cogs", .glo "is_bike", .glo "has_gear", .glo "check_bike", .glo "check_gear", .glo "divisor", .glo "reduced", .glo "find_ratio", .glo "all_gears", .glo "value_key", .glo "find_gears", .glo "find_ladder", .glo "find_with", .glo "count_shifts", .glo "shifts", .glo "nearest_gear", .glo "higher_gear", .glo "lower_gear", .glo "find_climb", .glo "fewest_shifts", .glo "best_climb", .glo "_law_pick", .glo "_law_ride", .glo "_law_part", .glo "_law_table", .glo "_law_less", .glo "_law_rising", .glo "_law_moves", .glo "law", .free "ValueError", .free "abs", .free "all", .free "bool", .free "dict", .free "int", .free "isinstance", .free "len"]
def fa1 : List He.Fa := [.free "max", .free "min", .free "range", .free "set", .free "sorted", .free "tuple", .free "zip", .int "MIN_RING" 10, .int "MAX_RING" 60, .int "MAX_RINGS" 3, .int "MIN_COG" 8, .int "MAX_COG" 50, .int "MAX_COGS" 8, .glo "InvalidBike", .exc "InvalidBike", .glo "InvalidGear", .exc "InvalidGear"]
def fa : List He.Fa := fa0 ++ fa1
def loose0 : List PySem.Str := ["is_int", "are_teeth", "are_rings", "are_cogs", "is_bike", "has_gear", "check_bike", "check_gear", "divisor", "reduced", "find_ratio", "all_gears", "value_key", "find_gears", "find_ladder", "find_with", "count_shifts", "shifts", "nearest_gear", "higher_gear", "lower_gear", "find_climb", "fewest_shifts", "best_climb", "_law_pick"]
def loose1 : List PySem.Str := ["_law_ride", "_law_part", "_law_table", "_law_less", "_law_rising", "_law_moves", "MIN_RING", "MAX_RING", "MAX_RINGS", "MIN_COG", "MAX_COG", "MAX_COGS", "GearError", "InvalidBike", "InvalidGear"]
def loose : List PySem.Str := loose0 ++ loose1
def hxL : List Str := []
abbrev R : PySem.W.OpenRow := PySem.W.OpenLaw.row PySem.Challenge.rw_cogrings_k07_whole_shifts
abbrev hk : PySem.W.Hook := He.hookD 4 fa fn
def ob (s : PySem.W.SharedT) : He.AlD := He.obsDG 4 fa fn (HandSHeadRun.getT s)
theorem ob_eq (s : PySem.W.SharedT) : ob s = hk.obs s.abs := He.obsDG_eq (HandSHeadRun.getT_eq s)
theorem run (w : World) : HandSHeadRun.RunEq R (PySem.W.view R.prog [45]) hk ob 30000 loose w := by
  intro os
  kernel_rfl
def frL : List Str := ["ValueError", "abs", "all", "bool", "dict", "int", "isinstance", "len", "max", "min", "range", "set", "sorted", "tuple", "zip"]
def csL : List (Str × PyData) := [("MIN_RING", .int 10), ("MAX_RING", .int 60), ("MAX_RINGS", .int 3), ("MIN_COG", .int 8), ("MAX_COG", .int 50), ("MAX_COGS", .int 8)]
def exL : List Str := ["InvalidBike", "InvalidGear"]
noncomputable def e_is_int : FnE := ⟨"is_int", 3, 1, m_is_int⟩
noncomputable def e_are_teeth : FnE := ⟨"are_teeth", 4, 2, m_are_teeth⟩
noncomputable def e_are_rings : FnE := ⟨"are_rings", 1, 3, m_are_rings⟩
noncomputable def e_are_cogs : FnE := ⟨"are_cogs", 1, 3, m_are_cogs⟩
noncomputable def e_is_bike : FnE := ⟨"is_bike", 1, 4, m_is_bike⟩
noncomputable def e_has_gear : FnE := ⟨"has_gear", 2, 2, m_has_gear⟩
noncomputable def e_check_bike : FnE := ⟨"check_bike", 1, 5, m_check_bike⟩
noncomputable def e_check_gear : FnE := ⟨"check_gear", 2, 3, m_check_gear⟩
noncomputable def e_divisor : FnE := ⟨"divisor", 2, 1, m_divisor⟩
noncomputable def e_reduced : FnE := ⟨"reduced", 2, 2, m_reduced⟩
noncomputable def e_find_ratio : FnE := ⟨"find_ratio", 2, 3, m_find_ratio⟩
noncomputable def e_all_gears : FnE := ⟨"all_gears", 1, 1, m_all_gears⟩
noncomputable def e_value_key : FnE := ⟨"value_key", 1, 1, m_value_key⟩
noncomputable def e_find_gears : FnE := ⟨"find_gears", 1, 4, m_find_gears⟩
noncomputable def e_find_ladder : FnE := ⟨"find_ladder", 1, 5, mirP P_find_ladder⟩
noncomputable def e_find_with : FnE := ⟨"find_with", 2, 4, mirP P_find_with⟩
noncomputable def e_count_shifts : FnE := ⟨"count_shifts", 2, 1, mirP P_count_shifts⟩
noncomputable def e_shifts : FnE := ⟨"shifts", 3, 6, mirP P_shifts⟩
noncomputable def e_nearest_gear : FnE := ⟨"nearest_gear", 3, 5, mirP P_nearest_gear⟩
noncomputable def e_higher_gear : FnE := ⟨"higher_gear", 2, 6, mirP P_higher_gear⟩
noncomputable def e_lower_gear : FnE := ⟨"lower_gear", 2, 6, mirP P_lower_gear⟩
noncomputable def e_find_climb : FnE := ⟨"find_climb", 1, 6, mirP P_find_climb⟩
noncomputable def e_fewest_shifts : FnE := ⟨"fewest_shifts", 1, 7, mirP P_fewest_shifts⟩
noncomputable def e_best_climb : FnE := ⟨"best_climb", 1, 7, mirP P_best_climb⟩
noncomputable def e__law_pick : FnE := ⟨"_law_pick", 3, 1, mirP P__law_pick⟩
noncomputable def e__law_ride : FnE := ⟨"_law_ride", 2, 2, mirP P__law_ride⟩
noncomputable def e__law_part : FnE := ⟨"_law_part", 2, 1, mirP P__law_part⟩
noncomputable def e__law_table : FnE := ⟨"_law_table", 1, 2, mirP P__law_table⟩
noncomputable def e__law_less : FnE := ⟨"_law_less", 2, 1, mirP P__law_less⟩
noncomputable def e__law_rising : FnE := ⟨"_law_rising", 1, 2, mirP P__law_rising⟩
noncomputable def e__law_moves : FnE := ⟨"_law_moves", 2, 1, mirP P__law_moves⟩
noncomputable def Γ : Tb := fun k => (([e_is_int, e_are_teeth, e_are_rings, e_are_cogs, e_is_bike, e_has_gear, e_check_bike, e_check_gear, e_divisor, e_reduced, e_find_ratio, e_all_gears, e_value_key, e_find_gears, e_find_ladder, e_find_with, e_count_shifts, e_shifts, e_nearest_gear, e_higher_gear, e_lower_gear, e_find_climb, e_fewest_shifts, e_best_climb, e__law_pick, e__law_ride, e__law_part, e__law_table, e__law_less, e__law_rising, e__law_moves] : List FnE)[k]?).getD noFn
noncomputable def D_is_int : Df := ⟨e_is_int, N_is_int, ["value", "least", "most"], (B_is_int), top 11⟩
noncomputable def D_are_teeth : Df := ⟨e_are_teeth, N_are_teeth, ["value", "most", "least", "greatest"], (B_are_teeth 0), top 12⟩
noncomputable def D_are_rings : Df := ⟨e_are_rings, N_are_rings, ["value"], (B_are_rings 1), top 13⟩
noncomputable def D_are_cogs : Df := ⟨e_are_cogs, N_are_cogs, ["value"], (B_are_cogs 1), top 14⟩
noncomputable def D_is_bike : Df := ⟨e_is_bike, N_is_bike, ["candidate"], (B_is_bike 2 3), top 15⟩
noncomputable def D_has_gear : Df := ⟨e_has_gear, N_has_gear, ["bike", "candidate"], (B_has_gear 0), top 16⟩
noncomputable def D_check_bike : Df := ⟨e_check_bike, N_check_bike, ["value"], (B_check_bike 4), top 17⟩
noncomputable def D_check_gear : Df := ⟨e_check_gear, N_check_gear, ["bike", "value"], (B_check_gear 5), top 18⟩
noncomputable def D_divisor : Df := ⟨e_divisor, N_divisor, ["one", "other"], (B_divisor 1000000000000), top 19⟩
noncomputable def D_reduced : Df := ⟨e_reduced, N_reduced, ["above", "below"], (B_reduced 8), top 20⟩
noncomputable def D_find_ratio : Df := ⟨e_find_ratio, N_find_ratio, ["bike", "gear"], (B_find_ratio 9), top 21⟩
noncomputable def D_all_gears : Df := ⟨e_all_gears, N_all_gears, ["bike"], (B_all_gears), top 22⟩
noncomputable def D_value_key : Df := ⟨e_value_key, N_value_key, ["fraction"], (B_value_key), top 23⟩
noncomputable def D_find_gears : Df := ⟨e_find_gears, N_find_gears, ["bike"], (B_find_gears 10 11 12), top 24⟩
noncomputable def D_find_ladder : Df := ⟨e_find_ladder, N_find_ladder, ["bike"], (B_find_ladder 10 13), top 26⟩
noncomputable def D_find_with : Df := ⟨e_find_with, N_find_with, ["bike", "wanted"], (B_find_with 10 11), top 27⟩
noncomputable def D_count_shifts : Df := ⟨e_count_shifts, N_count_shifts, ["one", "other"], (B_count_shifts), top 29⟩
noncomputable def D_shifts : Df := ⟨e_shifts, N_shifts, ["bike", "one", "other"], (B_shifts 6 7 16), top 30⟩
noncomputable def D_nearest_gear : Df := ⟨e_nearest_gear, N_nearest_gear, ["bike", "gear", "fraction"], (B_nearest_gear 15 16), top 31⟩
noncomputable def D_higher_gear : Df := ⟨e_higher_gear, N_higher_gear, ["bike", "gear"], (B_higher_gear 6 7 10 14 18), top 32⟩
noncomputable def D_lower_gear : Df := ⟨e_lower_gear, N_lower_gear, ["bike", "gear"], (B_lower_gear 6 7 10 14 18), top 33⟩
noncomputable def D_find_climb : Df := ⟨e_find_climb, N_find_climb, ["bike"], (B_find_climb 14 15 16), top 34⟩
noncomputable def D_fewest_shifts : Df := ⟨e_fewest_shifts, N_fewest_shifts, ["bike"], (B_fewest_shifts 6 21), top 35⟩
noncomputable def D_best_climb : Df := ⟨e_best_climb, N_best_climb, ["bike"], (B_best_climb 6 21), top 36⟩
noncomputable def D__law_pick : Df := ⟨e__law_pick, N__law_pick, ["_law_script", "_law_k", "_law_many"], (B__law_pick 1001), top 38⟩
noncomputable def D__law_ride : Df := ⟨e__law_ride, N__law_ride, ["_law_script", "_law_at"], (B__law_ride 24), top 39⟩
noncomputable def D__law_part : Df := ⟨e__law_part, N__law_part, ["_law_above", "_law_below"], (B__law_part), top 40⟩
noncomputable def D__law_table : Df := ⟨e__law_table, N__law_table, ["_law_ride_here"], (B__law_table 26), top 41⟩
noncomputable def D__law_less : Df := ⟨e__law_less, N__law_less, ["_law_one", "_law_other"], (B__law_less), top 42⟩
noncomputable def D__law_rising : Df := ⟨e__law_rising, N__law_rising, ["_law_ratios"], (B__law_rising 28), top 43⟩
noncomputable def D__law_moves : Df := ⟨e__law_moves, N__law_moves, ["_law_ride_here", "_law_start"], (B__law_moves 20), top 44⟩
def B_law_at : Ss := (B_law 17 19 20 22 23 25 27 29 30)
noncomputable def dfs : List Df := [D_is_int, D_are_teeth, D_are_rings, D_are_cogs, D_is_bike, D_has_gear, D_check_bike, D_check_gear, D_divisor, D_reduced, D_find_ratio, D_all_gears, D_value_key, D_find_gears, D_find_ladder, D_find_with, D_count_shifts, D_shifts, D_nearest_gear, D_higher_gear, D_lower_gear, D_find_climb, D_fewest_shifts, D_best_climb, D__law_pick, D__law_ride, D__law_part, D__law_table, D__law_less, D__law_rising, D__law_moves]
theorem c_is_int : chkD Γ frL csL exL hxL D_is_int = true := by decide +kernel
theorem c_are_teeth : chkD Γ frL csL exL hxL D_are_teeth = true := by decide +kernel
theorem c_are_rings : chkD Γ frL csL exL hxL D_are_rings = true := by decide +kernel
theorem c_are_cogs : chkD Γ frL csL exL hxL D_are_cogs = true := by decide +kernel
theorem c_is_bike : chkD Γ frL csL exL hxL D_is_bike = true := by decide +kernel
theorem c_has_gear : chkD Γ frL csL exL hxL D_has_gear = true := by decide +kernel
theorem c_check_bike : chkD Γ frL csL exL hxL D_check_bike = true := by decide +kernel
theorem c_check_gear : chkD Γ frL csL exL hxL D_check_gear = true := by decide +kernel
theorem c_divisor : chkD Γ frL csL exL hxL D_divisor = true := by decide +kernel
theorem c_reduced : chkD Γ frL csL exL hxL D_reduced = true := by decide +kernel
theorem c_find_ratio : chkD Γ frL csL exL hxL D_find_ratio = true := by decide +kernel
theorem c_all_gears : chkD Γ frL csL exL hxL D_all_gears = true := by decide +kernel
theorem c_value_key : chkD Γ frL csL exL hxL D_value_key = true := by decide +kernel
theorem c_find_gears : chkD Γ frL csL exL hxL D_find_gears = true := by decide +kernel
theorem c_find_ladder : chkD Γ frL csL exL hxL D_find_ladder = true := by decide +kernel
theorem c_find_with : chkD Γ frL csL exL hxL D_find_with = true := by decide +kernel
theorem c_count_shifts : chkD Γ frL csL exL hxL D_count_shifts = true := by decide +kernel
theorem c_shifts : chkD Γ frL csL exL hxL D_shifts = true := by decide +kernel
theorem c_nearest_gear : chkD Γ frL csL exL hxL D_nearest_gear = true := by decide +kernel
theorem c_higher_gear : chkD Γ frL csL exL hxL D_higher_gear = true := by decide +kernel
theorem c_lower_gear : chkD Γ frL csL exL hxL D_lower_gear = true := by decide +kernel
theorem c_find_climb : chkD Γ frL csL exL hxL D_find_climb = true := by decide +kernel
theorem c_fewest_shifts : chkD Γ frL csL exL hxL D_fewest_shifts = true := by decide +kernel
theorem c_best_climb : chkD Γ frL csL exL hxL D_best_climb = true := by decide +kernel
theorem c__law_pick : chkD Γ frL csL exL hxL D__law_pick = true := by decide +kernel
theorem c__law_ride : chkD Γ frL csL exL hxL D__law_ride = true := by decide +kernel
theorem c__law_part : chkD Γ frL csL exL hxL D__law_part = true := by decide +kernel
theorem c__law_table : chkD Γ frL csL exL hxL D__law_table = true := by decide +kernel
theorem c__law_less : chkD Γ frL csL exL hxL D__law_less = true := by decide +kernel
theorem c__law_rising : chkD Γ frL csL exL hxL D__law_rising = true := by decide +kernel
theorem c__law_moves : chkD Γ frL csL exL hxL D__law_moves = true := by decide +kernel
theorem c_law : (scC N_law ["_law_script"] (defScope (top 45)) && chkSs ⟨Γ, N_law, 7, frL, csL, exL, hxL⟩ B_law_at (defScope (top 45)) (defBody (top 45))) = true := by decide +kernel
theorem Γ_eq (k : Nat) : Γ k = ((dfs[k]?).map (·.e)).getD noFn := by
  have e : dfs.map (·.e) = [e_is_int, e_are_teeth, e_are_rings, e_are_cogs, e_is_bike, e_has_gear, e_check_bike, e_check_gear, e_divisor, e_reduced, e_find_ratio, e_all_gears, e_value_key, e_find_gears, e_find_ladder, e_find_with, e_count_shifts, e_shifts, e_nearest_gear, e_higher_gear, e_lower_gear, e_find_climb, e_fewest_shifts, e_best_climb, e__law_pick, e__law_ride, e__law_part, e__law_table, e__law_less, e__law_rising, e__law_moves] := rfl
  rw [← List.getElem?_map, e]
  rfl
theorem h_is_int : (Γ 0).run = m_is_int := rfl
theorem r_is_int : RunOk Γ D_is_int := fun ds _ => ok_is_int Γ ds
theorem h_divisor : (Γ 8).run = m_divisor := rfl
theorem r_divisor : RunOk Γ D_divisor := fun ds _ => ok_divisor Γ ds
theorem h_all_gears : (Γ 11).run = m_all_gears := rfl
theorem r_all_gears : RunOk Γ D_all_gears := fun ds _ => ok_all_gears Γ ds
theorem h_value_key : (Γ 12).run = m_value_key := rfl
theorem r_value_key : RunOk Γ D_value_key := fun ds _ => ok_value_key Γ ds
theorem q_count_shifts : ∀ ds r, P_count_shifts ds r → runB Γ N_count_shifts.length (B_count_shifts) ds = r := run_count_shifts Γ
theorem r_count_shifts : RunOk Γ D_count_shifts := fun ds _ => mirP_ok q_count_shifts ds
theorem h_count_shifts : At Γ 16 P_count_shifts := At.of rfl q_count_shifts
theorem q__law_pick : ∀ ds r, P__law_pick ds r → runB Γ N__law_pick.length (B__law_pick 1001) ds = r := run__law_pick Γ
theorem r__law_pick : RunOk Γ D__law_pick := fun ds _ => mirP_ok q__law_pick ds
theorem h__law_pick : At Γ 24 P__law_pick := At.of rfl q__law_pick
theorem q__law_part : ∀ ds r, P__law_part ds r → runB Γ N__law_part.length (B__law_part) ds = r := run__law_part Γ
theorem r__law_part : RunOk Γ D__law_part := fun ds _ => mirP_ok q__law_part ds
theorem h__law_part : At Γ 26 P__law_part := At.of rfl q__law_part
theorem q__law_less : ∀ ds r, P__law_less ds r → runB Γ N__law_less.length (B__law_less) ds = r := run__law_less Γ
theorem r__law_less : RunOk Γ D__law_less := fun ds _ => mirP_ok q__law_less ds
theorem h__law_less : At Γ 28 P__law_less := At.of rfl q__law_less
theorem q__law_moves : ∀ ds r, P__law_moves ds r → runB Γ N__law_moves.length (B__law_moves 20) ds = r := run__law_moves Γ
theorem r__law_moves : RunOk Γ D__law_moves := fun ds _ => mirP_ok q__law_moves ds
theorem h__law_moves : At Γ 30 P__law_moves := At.of rfl q__law_moves
theorem h_are_teeth : (Γ 1).run = m_are_teeth := rfl
theorem r_are_teeth : RunOk Γ D_are_teeth := fun ds _ => ok_are_teeth Γ 0 h_is_int ds
theorem h_has_gear : (Γ 5).run = m_has_gear := rfl
theorem r_has_gear : RunOk Γ D_has_gear := fun ds _ => ok_has_gear Γ 0 h_is_int ds
theorem h_reduced : (Γ 9).run = m_reduced := rfl
theorem r_reduced : RunOk Γ D_reduced := fun ds _ => ok_reduced Γ 8 h_divisor ds
theorem q__law_ride : ∀ ds r, P__law_ride ds r → runB Γ N__law_ride.length (B__law_ride 24) ds = r := run__law_ride Γ 24 h__law_pick
theorem r__law_ride : RunOk Γ D__law_ride := fun ds _ => mirP_ok q__law_ride ds
theorem h__law_ride : At Γ 25 P__law_ride := At.of rfl q__law_ride
theorem q__law_table : ∀ ds r, P__law_table ds r → runB Γ N__law_table.length (B__law_table 26) ds = r := run__law_table Γ 26 h__law_part
theorem r__law_table : RunOk Γ D__law_table := fun ds _ => mirP_ok q__law_table ds
theorem h__law_table : At Γ 27 P__law_table := At.of rfl q__law_table
theorem q__law_rising : ∀ ds r, P__law_rising ds r → runB Γ N__law_rising.length (B__law_rising 28) ds = r := run__law_rising Γ 28 h__law_less
theorem r__law_rising : RunOk Γ D__law_rising := fun ds _ => mirP_ok q__law_rising ds
theorem h__law_rising : At Γ 29 P__law_rising := At.of rfl q__law_rising
theorem h_are_rings : (Γ 2).run = m_are_rings := rfl
theorem r_are_rings : RunOk Γ D_are_rings := fun ds _ => ok_are_rings Γ 1 h_are_teeth ds
theorem h_are_cogs : (Γ 3).run = m_are_cogs := rfl
theorem r_are_cogs : RunOk Γ D_are_cogs := fun ds _ => ok_are_cogs Γ 1 h_are_teeth ds
theorem h_check_gear : (Γ 7).run = m_check_gear := rfl
theorem r_check_gear : RunOk Γ D_check_gear := fun ds _ => ok_check_gear Γ 5 h_has_gear ds
theorem h_find_ratio : (Γ 10).run = m_find_ratio := rfl
theorem r_find_ratio : RunOk Γ D_find_ratio := fun ds _ => ok_find_ratio Γ 9 h_reduced ds
theorem h_is_bike : (Γ 4).run = m_is_bike := rfl
theorem r_is_bike : RunOk Γ D_is_bike := fun ds _ => ok_is_bike Γ 2 3 h_are_rings h_are_cogs ds
theorem h_find_gears : (Γ 13).run = m_find_gears := rfl
theorem r_find_gears : RunOk Γ D_find_gears := fun ds _ => ok_find_gears Γ 10 11 12 h_find_ratio h_all_gears h_value_key ds
theorem q_find_with : ∀ ds r, P_find_with ds r → runB Γ N_find_with.length (B_find_with 10 11) ds = r := run_find_with Γ 10 11 h_find_ratio h_all_gears
theorem r_find_with : RunOk Γ D_find_with := fun ds _ => mirP_ok q_find_with ds
theorem h_find_with : At Γ 15 P_find_with := At.of rfl q_find_with
theorem h_check_bike : (Γ 6).run = m_check_bike := rfl
theorem r_check_bike : RunOk Γ D_check_bike := fun ds _ => ok_check_bike Γ 4 h_is_bike ds
theorem q_find_ladder : ∀ ds r, P_find_ladder ds r → runB Γ N_find_ladder.length (B_find_ladder 10 13) ds = r := run_find_ladder Γ 10 13 h_find_ratio h_find_gears
theorem r_find_ladder : RunOk Γ D_find_ladder := fun ds _ => mirP_ok q_find_ladder ds
theorem h_find_ladder : At Γ 14 P_find_ladder := At.of rfl q_find_ladder
theorem q_nearest_gear : ∀ ds r, P_nearest_gear ds r → runB Γ N_nearest_gear.length (B_nearest_gear 15 16) ds = r := run_nearest_gear Γ 15 16 h_find_with h_count_shifts
theorem r_nearest_gear : RunOk Γ D_nearest_gear := fun ds _ => mirP_ok q_nearest_gear ds
theorem h_nearest_gear : At Γ 18 P_nearest_gear := At.of rfl q_nearest_gear
theorem q_shifts : ∀ ds r, P_shifts ds r → runB Γ N_shifts.length (B_shifts 6 7 16) ds = r := run_shifts Γ 6 7 16 h_check_bike h_check_gear h_count_shifts
theorem r_shifts : RunOk Γ D_shifts := fun ds _ => mirP_ok q_shifts ds
theorem h_shifts : At Γ 17 P_shifts := At.of rfl q_shifts
theorem q_higher_gear : ∀ ds r, P_higher_gear ds r → runB Γ N_higher_gear.length (B_higher_gear 6 7 10 14 18) ds = r := run_higher_gear Γ 6 7 10 14 18 h_check_bike h_check_gear h_find_ratio h_find_ladder h_nearest_gear
theorem r_higher_gear : RunOk Γ D_higher_gear := fun ds _ => mirP_ok q_higher_gear ds
theorem h_higher_gear : At Γ 19 P_higher_gear := At.of rfl q_higher_gear
theorem q_lower_gear : ∀ ds r, P_lower_gear ds r → runB Γ N_lower_gear.length (B_lower_gear 6 7 10 14 18) ds = r := run_lower_gear Γ 6 7 10 14 18 h_check_bike h_check_gear h_find_ratio h_find_ladder h_nearest_gear
theorem r_lower_gear : RunOk Γ D_lower_gear := fun ds _ => mirP_ok q_lower_gear ds
theorem h_lower_gear : At Γ 20 P_lower_gear := At.of rfl q_lower_gear
theorem q_find_climb : ∀ ds r, P_find_climb ds r → runB Γ N_find_climb.length (B_find_climb 14 15 16) ds = r := run_find_climb Γ 14 15 16 h_find_ladder h_find_with h_count_shifts
theorem r_find_climb : RunOk Γ D_find_climb := fun ds _ => mirP_ok q_find_climb ds
theorem h_find_climb : At Γ 21 P_find_climb := At.of rfl q_find_climb
theorem q_fewest_shifts : ∀ ds r, P_fewest_shifts ds r → runB Γ N_fewest_shifts.length (B_fewest_shifts 6 21) ds = r := run_fewest_shifts Γ 6 21 h_check_bike h_find_climb
theorem r_fewest_shifts : RunOk Γ D_fewest_shifts := fun ds _ => mirP_ok q_fewest_shifts ds
theorem h_fewest_shifts : At Γ 22 P_fewest_shifts := At.of rfl q_fewest_shifts
theorem q_best_climb : ∀ ds r, P_best_climb ds r → runB Γ N_best_climb.length (B_best_climb 6 21) ds = r := run_best_climb Γ 6 21 h_check_bike h_find_climb
theorem r_best_climb : RunOk Γ D_best_climb := fun ds _ => mirP_ok q_best_climb ds
theorem h_best_climb : At Γ 23 P_best_climb := At.of rfl q_best_climb
theorem law_run : ∀ ns : List Int, ns.length ≤ 63 → runB Γ N_law.length B_law_at [.list (ns.map .int)] = .ok (.bool true) := fun ns few => run_law07 Γ 17 19 20 22 23 25 27 29 30 h_shifts h_higher_gear h_lower_gear h_fewest_shifts h_best_climb h__law_ride h__law_table h__law_rising h__law_moves ns few
theorem cst_int {K : PySem.W.Frag} {mg : Str → Option Value} {x : Str} {n : Int} {d : PyData} (h : ∃ t, mg x = some (.int n t)) (q : eqD d (.int n) = true) : ∃ u v, mg x = some u ∧ RelV v u ∧ ∀ H, Rp K H v d := by
  obtain ⟨t, h⟩ := h
  cases d with
  | int m =>
    have e : m = n := of_decide_eq_true q
    subst e
    exact ⟨_, .int m, h, ⟨t, rfl⟩, fun H => .int m⟩
  | _ => cases q
theorem cst_str {K : PySem.W.Frag} {mg : Str → Option Value} {x : Str} {n : Str} {d : PyData} (h : ∃ t, mg x = some (.str n t)) (q : eqD d (.str n) = true) : ∃ u v, mg x = some u ∧ RelV v u ∧ ∀ H, Rp K H v d := by
  obtain ⟨t, h⟩ := h
  cases d with
  | str m =>
    have e : m = n := of_decide_eq_true q
    subst e
    exact ⟨_, .str m, h, ⟨t, rfl⟩, fun H => .str m⟩
  | _ => cases q
theorem runs_ok : ∀ d ∈ dfs, RunOk Γ d := by
  unfold dfs
  refine List.forall_mem_cons.mpr ⟨r_is_int, ?_⟩
  refine List.forall_mem_cons.mpr ⟨r_are_teeth, ?_⟩
  refine List.forall_mem_cons.mpr ⟨r_are_rings, ?_⟩
  refine List.forall_mem_cons.mpr ⟨r_are_cogs, ?_⟩
  refine List.forall_mem_cons.mpr ⟨r_is_bike, ?_⟩
  refine List.forall_mem_cons.mpr ⟨r_has_gear, ?_⟩
  refine List.forall_mem_cons.mpr ⟨r_check_bike, ?_⟩
  refine List.forall_mem_cons.mpr ⟨r_check_gear, ?_⟩
  refine List.forall_mem_cons.mpr ⟨r_divisor, ?_⟩
  refine List.forall_mem_cons.mpr ⟨r_reduced, ?_⟩
  refine List.forall_mem_cons.mpr ⟨r_find_ratio, ?_⟩
  refine List.forall_mem_cons.mpr ⟨r_all_gears, ?_⟩
  refine List.forall_mem_cons.mpr ⟨r_value_key, ?_⟩
  refine List.forall_mem_cons.mpr ⟨r_find_gears, ?_⟩
  refine List.forall_mem_cons.mpr ⟨r_find_ladder, ?_⟩
  refine List.forall_mem_cons.mpr ⟨r_find_with, ?_⟩
  refine List.forall_mem_cons.mpr ⟨r_count_shifts, ?_⟩
  refine List.forall_mem_cons.mpr ⟨r_shifts, ?_⟩
  refine List.forall_mem_cons.mpr ⟨r_nearest_gear, ?_⟩
  refine List.forall_mem_cons.mpr ⟨r_higher_gear, ?_⟩
  refine List.forall_mem_cons.mpr ⟨r_lower_gear, ?_⟩
  refine List.forall_mem_cons.mpr ⟨r_find_climb, ?_⟩
  refine List.forall_mem_cons.mpr ⟨r_fewest_shifts, ?_⟩
  refine List.forall_mem_cons.mpr ⟨r_best_climb, ?_⟩
  refine List.forall_mem_cons.mpr ⟨r__law_pick, ?_⟩
  refine List.forall_mem_cons.mpr ⟨r__law_ride, ?_⟩
  refine List.forall_mem_cons.mpr ⟨r__law_part, ?_⟩
  refine List.forall_mem_cons.mpr ⟨r__law_table, ?_⟩
  refine List.forall_mem_cons.mpr ⟨r__law_less, ?_⟩
  refine List.forall_mem_cons.mpr ⟨r__law_rising, ?_⟩
  refine List.forall_mem_cons.mpr ⟨r__law_moves, ?_⟩
  exact fun _ h => nomatch h
theorem chks_ok : ∀ d ∈ dfs, chkD Γ frL csL exL hxL d = true := by
  unfold dfs
  refine List.forall_mem_cons.mpr ⟨c_is_int, ?_⟩
  refine List.forall_mem_cons.mpr ⟨c_are_teeth, ?_⟩
  refine List.forall_mem_cons.mpr ⟨c_are_rings, ?_⟩
  refine List.forall_mem_cons.mpr ⟨c_are_cogs, ?_⟩
  refine List.forall_mem_cons.mpr ⟨c_is_bike, ?_⟩
  refine List.forall_mem_cons.mpr ⟨c_has_gear, ?_⟩
  refine List.forall_mem_cons.mpr ⟨c_check_bike, ?_⟩
  refine List.forall_mem_cons.mpr ⟨c_check_gear, ?_⟩
  refine List.forall_mem_cons.mpr ⟨c_divisor, ?_⟩
  refine List.forall_mem_cons.mpr ⟨c_reduced, ?_⟩
  refine List.forall_mem_cons.mpr ⟨c_find_ratio, ?_⟩
  refine List.forall_mem_cons.mpr ⟨c_all_gears, ?_⟩
  refine List.forall_mem_cons.mpr ⟨c_value_key, ?_⟩
  refine List.forall_mem_cons.mpr ⟨c_find_gears, ?_⟩
  refine List.forall_mem_cons.mpr ⟨c_find_ladder, ?_⟩
  refine List.forall_mem_cons.mpr ⟨c_find_with, ?_⟩
  refine List.forall_mem_cons.mpr ⟨c_count_shifts, ?_⟩
  refine List.forall_mem_cons.mpr ⟨c_shifts, ?_⟩
  refine List.forall_mem_cons.mpr ⟨c_nearest_gear, ?_⟩
  refine List.forall_mem_cons.mpr ⟨c_higher_gear, ?_⟩
  refine List.forall_mem_cons.mpr ⟨c_lower_gear, ?_⟩
  refine List.forall_mem_cons.mpr ⟨c_find_climb, ?_⟩
  refine List.forall_mem_cons.mpr ⟨c_fewest_shifts, ?_⟩
  refine List.forall_mem_cons.mpr ⟨c_best_climb, ?_⟩
  refine List.forall_mem_cons.mpr ⟨c__law_pick, ?_⟩
  refine List.forall_mem_cons.mpr ⟨c__law_ride, ?_⟩
  refine List.forall_mem_cons.mpr ⟨c__law_part, ?_⟩
  refine List.forall_mem_cons.mpr ⟨c__law_table, ?_⟩
  refine List.forall_mem_cons.mpr ⟨c__law_less, ?_⟩
  refine List.forall_mem_cons.mpr ⟨c__law_rising, ?_⟩
  refine List.forall_mem_cons.mpr ⟨c__law_moves, ?_⟩
  exact fun _ h => nomatch h
section
variable {w : World} {K : PySem.W.Frag} {mg : Str → Option Value} {h : Heap}
theorem f_is_int (X : K.In h) (G : h.Ns mainGlobals mg) (c : He.SaysD fa fn K) : Fact K mg D_is_int := by
  obtain ⟨fd, F⟩ := c.def_ 0 (d := d_is_int) rfl
  exact ⟨_, fd, F, He.glo_ok X G (c.fact 0 (f := .glo "is_int") rfl), F.bindsN fun _ _ _ _ _ _ us hl => match us, hl with
    | [_, _, _], _ => rfl⟩
theorem f_are_teeth (X : K.In h) (G : h.Ns mainGlobals mg) (c : He.SaysD fa fn K) : Fact K mg D_are_teeth := by
  obtain ⟨fd, F⟩ := c.def_ 1 (d := d_are_teeth) rfl
  exact ⟨_, fd, F, He.glo_ok X G (c.fact 1 (f := .glo "are_teeth") rfl), F.bindsN fun _ _ _ _ _ _ us hl => match us, hl with
    | [_, _, _, _], _ => rfl⟩
theorem f_are_rings (X : K.In h) (G : h.Ns mainGlobals mg) (c : He.SaysD fa fn K) : Fact K mg D_are_rings := by
  obtain ⟨fd, F⟩ := c.def_ 2 (d := d_are_rings) rfl
  exact ⟨_, fd, F, He.glo_ok X G (c.fact 2 (f := .glo "are_rings") rfl), F.bindsN fun _ _ _ _ _ _ us hl => match us, hl with
    | [_], _ => rfl⟩
theorem f_are_cogs (X : K.In h) (G : h.Ns mainGlobals mg) (c : He.SaysD fa fn K) : Fact K mg D_are_cogs := by
  obtain ⟨fd, F⟩ := c.def_ 3 (d := d_are_cogs) rfl
  exact ⟨_, fd, F, He.glo_ok X G (c.fact 3 (f := .glo "are_cogs") rfl), F.bindsN fun _ _ _ _ _ _ us hl => match us, hl with
    | [_], _ => rfl⟩
theorem f_is_bike (X : K.In h) (G : h.Ns mainGlobals mg) (c : He.SaysD fa fn K) : Fact K mg D_is_bike := by
  obtain ⟨fd, F⟩ := c.def_ 4 (d := d_is_bike) rfl
  exact ⟨_, fd, F, He.glo_ok X G (c.fact 4 (f := .glo "is_bike") rfl), F.bindsN fun _ _ _ _ _ _ us hl => match us, hl with
    | [_], _ => rfl⟩
theorem f_has_gear (X : K.In h) (G : h.Ns mainGlobals mg) (c : He.SaysD fa fn K) : Fact K mg D_has_gear := by
  obtain ⟨fd, F⟩ := c.def_ 5 (d := d_has_gear) rfl
  exact ⟨_, fd, F, He.glo_ok X G (c.fact 5 (f := .glo "has_gear") rfl), F.bindsN fun _ _ _ _ _ _ us hl => match us, hl with
    | [_, _], _ => rfl⟩
theorem f_check_bike (X : K.In h) (G : h.Ns mainGlobals mg) (c : He.SaysD fa fn K) : Fact K mg D_check_bike := by
  obtain ⟨fd, F⟩ := c.def_ 6 (d := d_check_bike) rfl
  exact ⟨_, fd, F, He.glo_ok X G (c.fact 6 (f := .glo "check_bike") rfl), F.bindsN fun _ _ _ _ _ _ us hl => match us, hl with
    | [_], _ => rfl⟩
theorem f_check_gear (X : K.In h) (G : h.Ns mainGlobals mg) (c : He.SaysD fa fn K) : Fact K mg D_check_gear := by
  obtain ⟨fd, F⟩ := c.def_ 7 (d := d_check_gear) rfl
  exact ⟨_, fd, F, He.glo_ok X G (c.fact 7 (f := .glo "check_gear") rfl), F.bindsN fun _ _ _ _ _ _ us hl => match us, hl with
    | [_, _], _ => rfl⟩
theorem f_divisor (X : K.In h) (G : h.Ns mainGlobals mg) (c : He.SaysD fa fn K) : Fact K mg D_divisor := by
  obtain ⟨fd, F⟩ := c.def_ 8 (d := d_divisor) rfl
  exact ⟨_, fd, F, He.glo_ok X G (c.fact 8 (f := .glo "divisor") rfl), F.bindsN fun _ _ _ _ _ _ us hl => match us, hl with
    | [_, _], _ => rfl⟩
theorem f_reduced (X : K.In h) (G : h.Ns mainGlobals mg) (c : He.SaysD fa fn K) : Fact K mg D_reduced := by
  obtain ⟨fd, F⟩ := c.def_ 9 (d := d_reduced) rfl
  exact ⟨_, fd, F, He.glo_ok X G (c.fact 9 (f := .glo "reduced") rfl), F.bindsN fun _ _ _ _ _ _ us hl => match us, hl with
    | [_, _], _ => rfl⟩
theorem f_find_ratio (X : K.In h) (G : h.Ns mainGlobals mg) (c : He.SaysD fa fn K) : Fact K mg D_find_ratio := by
  obtain ⟨fd, F⟩ := c.def_ 10 (d := d_find_ratio) rfl
  exact ⟨_, fd, F, He.glo_ok X G (c.fact 10 (f := .glo "find_ratio") rfl), F.bindsN fun _ _ _ _ _ _ us hl => match us, hl with
    | [_, _], _ => rfl⟩
theorem f_all_gears (X : K.In h) (G : h.Ns mainGlobals mg) (c : He.SaysD fa fn K) : Fact K mg D_all_gears := by
  obtain ⟨fd, F⟩ := c.def_ 11 (d := d_all_gears) rfl
  exact ⟨_, fd, F, He.glo_ok X G (c.fact 11 (f := .glo "all_gears") rfl), F.bindsN fun _ _ _ _ _ _ us hl => match us, hl with
    | [_], _ => rfl⟩
theorem f_value_key (X : K.In h) (G : h.Ns mainGlobals mg) (c : He.SaysD fa fn K) : Fact K mg D_value_key := by
  obtain ⟨fd, F⟩ := c.def_ 12 (d := d_value_key) rfl
  exact ⟨_, fd, F, He.glo_ok X G (c.fact 12 (f := .glo "value_key") rfl), F.bindsN fun _ _ _ _ _ _ us hl => match us, hl with
    | [_], _ => rfl⟩
theorem f_find_gears (X : K.In h) (G : h.Ns mainGlobals mg) (c : He.SaysD fa fn K) : Fact K mg D_find_gears := by
  obtain ⟨fd, F⟩ := c.def_ 13 (d := d_find_gears) rfl
  exact ⟨_, fd, F, He.glo_ok X G (c.fact 13 (f := .glo "find_gears") rfl), F.bindsN fun _ _ _ _ _ _ us hl => match us, hl with
    | [_], _ => rfl⟩
theorem f_find_ladder (X : K.In h) (G : h.Ns mainGlobals mg) (c : He.SaysD fa fn K) : Fact K mg D_find_ladder := by
  obtain ⟨fd, F⟩ := c.def_ 14 (d := d_find_ladder) rfl
  exact ⟨_, fd, F, He.glo_ok X G (c.fact 14 (f := .glo "find_ladder") rfl), F.bindsN fun _ _ _ _ _ _ us hl => match us, hl with
    | [_], _ => rfl⟩
theorem f_find_with (X : K.In h) (G : h.Ns mainGlobals mg) (c : He.SaysD fa fn K) : Fact K mg D_find_with := by
  obtain ⟨fd, F⟩ := c.def_ 15 (d := d_find_with) rfl
  exact ⟨_, fd, F, He.glo_ok X G (c.fact 15 (f := .glo "find_with") rfl), F.bindsN fun _ _ _ _ _ _ us hl => match us, hl with
    | [_, _], _ => rfl⟩
theorem f_count_shifts (X : K.In h) (G : h.Ns mainGlobals mg) (c : He.SaysD fa fn K) : Fact K mg D_count_shifts := by
  obtain ⟨fd, F⟩ := c.def_ 16 (d := d_count_shifts) rfl
  exact ⟨_, fd, F, He.glo_ok X G (c.fact 16 (f := .glo "count_shifts") rfl), F.bindsN fun _ _ _ _ _ _ us hl => match us, hl with
    | [_, _], _ => rfl⟩
theorem f_shifts (X : K.In h) (G : h.Ns mainGlobals mg) (c : He.SaysD fa fn K) : Fact K mg D_shifts := by
  obtain ⟨fd, F⟩ := c.def_ 17 (d := d_shifts) rfl
  exact ⟨_, fd, F, He.glo_ok X G (c.fact 17 (f := .glo "shifts") rfl), F.bindsN fun _ _ _ _ _ _ us hl => match us, hl with
    | [_, _, _], _ => rfl⟩
theorem f_nearest_gear (X : K.In h) (G : h.Ns mainGlobals mg) (c : He.SaysD fa fn K) : Fact K mg D_nearest_gear := by
  obtain ⟨fd, F⟩ := c.def_ 18 (d := d_nearest_gear) rfl
  exact ⟨_, fd, F, He.glo_ok X G (c.fact 18 (f := .glo "nearest_gear") rfl), F.bindsN fun _ _ _ _ _ _ us hl => match us, hl with
    | [_, _, _], _ => rfl⟩
theorem f_higher_gear (X : K.In h) (G : h.Ns mainGlobals mg) (c : He.SaysD fa fn K) : Fact K mg D_higher_gear := by
  obtain ⟨fd, F⟩ := c.def_ 19 (d := d_higher_gear) rfl
  exact ⟨_, fd, F, He.glo_ok X G (c.fact 19 (f := .glo "higher_gear") rfl), F.bindsN fun _ _ _ _ _ _ us hl => match us, hl with
    | [_, _], _ => rfl⟩
theorem f_lower_gear (X : K.In h) (G : h.Ns mainGlobals mg) (c : He.SaysD fa fn K) : Fact K mg D_lower_gear := by
  obtain ⟨fd, F⟩ := c.def_ 20 (d := d_lower_gear) rfl
  exact ⟨_, fd, F, He.glo_ok X G (c.fact 20 (f := .glo "lower_gear") rfl), F.bindsN fun _ _ _ _ _ _ us hl => match us, hl with
    | [_, _], _ => rfl⟩
theorem f_find_climb (X : K.In h) (G : h.Ns mainGlobals mg) (c : He.SaysD fa fn K) : Fact K mg D_find_climb := by
  obtain ⟨fd, F⟩ := c.def_ 21 (d := d_find_climb) rfl
  exact ⟨_, fd, F, He.glo_ok X G (c.fact 21 (f := .glo "find_climb") rfl), F.bindsN fun _ _ _ _ _ _ us hl => match us, hl with
    | [_], _ => rfl⟩
theorem f_fewest_shifts (X : K.In h) (G : h.Ns mainGlobals mg) (c : He.SaysD fa fn K) : Fact K mg D_fewest_shifts := by
  obtain ⟨fd, F⟩ := c.def_ 22 (d := d_fewest_shifts) rfl
  exact ⟨_, fd, F, He.glo_ok X G (c.fact 22 (f := .glo "fewest_shifts") rfl), F.bindsN fun _ _ _ _ _ _ us hl => match us, hl with
    | [_], _ => rfl⟩
theorem f_best_climb (X : K.In h) (G : h.Ns mainGlobals mg) (c : He.SaysD fa fn K) : Fact K mg D_best_climb := by
  obtain ⟨fd, F⟩ := c.def_ 23 (d := d_best_climb) rfl
  exact ⟨_, fd, F, He.glo_ok X G (c.fact 23 (f := .glo "best_climb") rfl), F.bindsN fun _ _ _ _ _ _ us hl => match us, hl with
    | [_], _ => rfl⟩
theorem f__law_pick (X : K.In h) (G : h.Ns mainGlobals mg) (c : He.SaysD fa fn K) : Fact K mg D__law_pick := by
  obtain ⟨fd, F⟩ := c.def_ 24 (d := d__law_pick) rfl
  exact ⟨_, fd, F, He.glo_ok X G (c.fact 24 (f := .glo "_law_pick") rfl), F.bindsN fun _ _ _ _ _ _ us hl => match us, hl with
    | [_, _, _], _ => rfl⟩
theorem f__law_ride (X : K.In h) (G : h.Ns mainGlobals mg) (c : He.SaysD fa fn K) : Fact K mg D__law_ride := by
  obtain ⟨fd, F⟩ := c.def_ 25 (d := d__law_ride) rfl
  exact ⟨_, fd, F, He.glo_ok X G (c.fact 25 (f := .glo "_law_ride") rfl), F.bindsN fun _ _ _ _ _ _ us hl => match us, hl with
    | [_, _], _ => rfl⟩
theorem f__law_part (X : K.In h) (G : h.Ns mainGlobals mg) (c : He.SaysD fa fn K) : Fact K mg D__law_part := by
  obtain ⟨fd, F⟩ := c.def_ 26 (d := d__law_part) rfl
  exact ⟨_, fd, F, He.glo_ok X G (c.fact 26 (f := .glo "_law_part") rfl), F.bindsN fun _ _ _ _ _ _ us hl => match us, hl with
    | [_, _], _ => rfl⟩
theorem f__law_table (X : K.In h) (G : h.Ns mainGlobals mg) (c : He.SaysD fa fn K) : Fact K mg D__law_table := by
  obtain ⟨fd, F⟩ := c.def_ 27 (d := d__law_table) rfl
  exact ⟨_, fd, F, He.glo_ok X G (c.fact 27 (f := .glo "_law_table") rfl), F.bindsN fun _ _ _ _ _ _ us hl => match us, hl with
    | [_], _ => rfl⟩
theorem f__law_less (X : K.In h) (G : h.Ns mainGlobals mg) (c : He.SaysD fa fn K) : Fact K mg D__law_less := by
  obtain ⟨fd, F⟩ := c.def_ 28 (d := d__law_less) rfl
  exact ⟨_, fd, F, He.glo_ok X G (c.fact 28 (f := .glo "_law_less") rfl), F.bindsN fun _ _ _ _ _ _ us hl => match us, hl with
    | [_, _], _ => rfl⟩
theorem f__law_rising (X : K.In h) (G : h.Ns mainGlobals mg) (c : He.SaysD fa fn K) : Fact K mg D__law_rising := by
  obtain ⟨fd, F⟩ := c.def_ 29 (d := d__law_rising) rfl
  exact ⟨_, fd, F, He.glo_ok X G (c.fact 29 (f := .glo "_law_rising") rfl), F.bindsN fun _ _ _ _ _ _ us hl => match us, hl with
    | [_], _ => rfl⟩
theorem f__law_moves (X : K.In h) (G : h.Ns mainGlobals mg) (c : He.SaysD fa fn K) : Fact K mg D__law_moves := by
  obtain ⟨fd, F⟩ := c.def_ 30 (d := d__law_moves) rfl
  exact ⟨_, fd, F, He.glo_ok X G (c.fact 30 (f := .glo "_law_moves") rfl), F.bindsN fun _ _ _ _ _ _ us hl => match us, hl with
    | [_, _], _ => rfl⟩
theorem facts_ok (X : K.In h) (G : h.Ns mainGlobals mg) (c : He.SaysD fa fn K) : ∀ d ∈ dfs, Fact K mg d := by
  unfold dfs
  refine List.forall_mem_cons.mpr ⟨f_is_int X G c, ?_⟩
  refine List.forall_mem_cons.mpr ⟨f_are_teeth X G c, ?_⟩
  refine List.forall_mem_cons.mpr ⟨f_are_rings X G c, ?_⟩
  refine List.forall_mem_cons.mpr ⟨f_are_cogs X G c, ?_⟩
  refine List.forall_mem_cons.mpr ⟨f_is_bike X G c, ?_⟩
  refine List.forall_mem_cons.mpr ⟨f_has_gear X G c, ?_⟩
  refine List.forall_mem_cons.mpr ⟨f_check_bike X G c, ?_⟩
  refine List.forall_mem_cons.mpr ⟨f_check_gear X G c, ?_⟩
  refine List.forall_mem_cons.mpr ⟨f_divisor X G c, ?_⟩
  refine List.forall_mem_cons.mpr ⟨f_reduced X G c, ?_⟩
  refine List.forall_mem_cons.mpr ⟨f_find_ratio X G c, ?_⟩
  refine List.forall_mem_cons.mpr ⟨f_all_gears X G c, ?_⟩
  refine List.forall_mem_cons.mpr ⟨f_value_key X G c, ?_⟩
  refine List.forall_mem_cons.mpr ⟨f_find_gears X G c, ?_⟩
  refine List.forall_mem_cons.mpr ⟨f_find_ladder X G c, ?_⟩
  refine List.forall_mem_cons.mpr ⟨f_find_with X G c, ?_⟩
  refine List.forall_mem_cons.mpr ⟨f_count_shifts X G c, ?_⟩
  refine List.forall_mem_cons.mpr ⟨f_shifts X G c, ?_⟩
  refine List.forall_mem_cons.mpr ⟨f_nearest_gear X G c, ?_⟩
  refine List.forall_mem_cons.mpr ⟨f_higher_gear X G c, ?_⟩
  refine List.forall_mem_cons.mpr ⟨f_lower_gear X G c, ?_⟩
  refine List.forall_mem_cons.mpr ⟨f_find_climb X G c, ?_⟩
  refine List.forall_mem_cons.mpr ⟨f_fewest_shifts X G c, ?_⟩
  refine List.forall_mem_cons.mpr ⟨f_best_climb X G c, ?_⟩
  refine List.forall_mem_cons.mpr ⟨f__law_pick X G c, ?_⟩
  refine List.forall_mem_cons.mpr ⟨f__law_ride X G c, ?_⟩
  refine List.forall_mem_cons.mpr ⟨f__law_part X G c, ?_⟩
  refine List.forall_mem_cons.mpr ⟨f__law_table X G c, ?_⟩
  refine List.forall_mem_cons.mpr ⟨f__law_less X G c, ?_⟩
  refine List.forall_mem_cons.mpr ⟨f__law_rising X G c, ?_⟩
  refine List.forall_mem_cons.mpr ⟨f__law_moves X G c, ?_⟩
  exact fun _ h => nomatch h
theorem free_all (X : K.In h) (G : h.Ns mainGlobals mg) (c : He.SaysD fa fn K) : ∀ x, frL.contains x = true → mg x = none := by
  suffices all : ∀ x ∈ frL, mg x = none from fun x hx => all x (List.contains_iff_mem.mp hx)
  unfold frL
  refine List.forall_mem_cons.mpr ⟨He.free_ok X G (c.fact 32 (f := .free "ValueError") rfl), ?_⟩
  refine List.forall_mem_cons.mpr ⟨He.free_ok X G (c.fact 33 (f := .free "abs") rfl), ?_⟩
  refine List.forall_mem_cons.mpr ⟨He.free_ok X G (c.fact 34 (f := .free "all") rfl), ?_⟩
  refine List.forall_mem_cons.mpr ⟨He.free_ok X G (c.fact 35 (f := .free "bool") rfl), ?_⟩
  refine List.forall_mem_cons.mpr ⟨He.free_ok X G (c.fact 36 (f := .free "dict") rfl), ?_⟩
  refine List.forall_mem_cons.mpr ⟨He.free_ok X G (c.fact 37 (f := .free "int") rfl), ?_⟩
  refine List.forall_mem_cons.mpr ⟨He.free_ok X G (c.fact 38 (f := .free "isinstance") rfl), ?_⟩
  refine List.forall_mem_cons.mpr ⟨He.free_ok X G (c.fact 39 (f := .free "len") rfl), ?_⟩
  refine List.forall_mem_cons.mpr ⟨He.free_ok X G (c.fact 40 (f := .free "max") rfl), ?_⟩
  refine List.forall_mem_cons.mpr ⟨He.free_ok X G (c.fact 41 (f := .free "min") rfl), ?_⟩
  refine List.forall_mem_cons.mpr ⟨He.free_ok X G (c.fact 42 (f := .free "range") rfl), ?_⟩
  refine List.forall_mem_cons.mpr ⟨He.free_ok X G (c.fact 43 (f := .free "set") rfl), ?_⟩
  refine List.forall_mem_cons.mpr ⟨He.free_ok X G (c.fact 44 (f := .free "sorted") rfl), ?_⟩
  refine List.forall_mem_cons.mpr ⟨He.free_ok X G (c.fact 45 (f := .free "tuple") rfl), ?_⟩
  refine List.forall_mem_cons.mpr ⟨He.free_ok X G (c.fact 46 (f := .free "zip") rfl), ?_⟩
  exact fun _ h => nomatch h
theorem cst_all (X : K.In h) (G : h.Ns mainGlobals mg) (c : He.SaysD fa fn K) : ∀ x d e, csL.lookup x = some e → eqD d e = true → ∃ u v, mg x = some u ∧ RelV v u ∧ ∀ H, Rp K H v d := by
  intro x d e hl
  have hm : (x, e) ∈ csL := PySem.mem_of_lookup hl
  clear hl
  have all : ∀ p ∈ csL, eqD d p.2 = true → ∃ u v, mg p.1 = some u ∧ RelV v u ∧ ∀ H, Rp K H v d := by
    unfold csL
    refine List.forall_mem_cons.mpr ⟨cst_int (He.int_ok X G (c.fact 47 (f := .int "MIN_RING" 10) rfl)), ?_⟩
    refine List.forall_mem_cons.mpr ⟨cst_int (He.int_ok X G (c.fact 48 (f := .int "MAX_RING" 60) rfl)), ?_⟩
    refine List.forall_mem_cons.mpr ⟨cst_int (He.int_ok X G (c.fact 49 (f := .int "MAX_RINGS" 3) rfl)), ?_⟩
    refine List.forall_mem_cons.mpr ⟨cst_int (He.int_ok X G (c.fact 50 (f := .int "MIN_COG" 8) rfl)), ?_⟩
    refine List.forall_mem_cons.mpr ⟨cst_int (He.int_ok X G (c.fact 51 (f := .int "MAX_COG" 50) rfl)), ?_⟩
    refine List.forall_mem_cons.mpr ⟨cst_int (He.int_ok X G (c.fact 52 (f := .int "MAX_COGS" 8) rfl)), ?_⟩
    exact fun _ h => nomatch h
  exact all (x, e) hm
theorem exn_all (X : K.In h) (G : h.Ns mainGlobals mg) (c : He.SaysD fa fn K) : ∀ k, exL.contains k = true → PySem.W.excIn K (He.ga K k) He.veBase "ValueError.__new__" = true ∧ mg k = some (.ref (He.ga K k)) ∧ PySem.W.keepIn K (.ref (He.ga K k)) = true ∧
      PySem.W.subIn K (.ref (He.ga K k)) (.type "BaseException") = some true ∧ PySem.W.typeIn K (.ref (He.ga K k)) = some (.type "type") := by
  suffices all : ∀ k ∈ exL, PySem.W.excIn K (He.ga K k) He.veBase "ValueError.__new__" = true ∧ mg k = some (.ref (He.ga K k)) ∧ PySem.W.keepIn K (.ref (He.ga K k)) = true ∧ PySem.W.subIn K (.ref (He.ga K k)) (.type "BaseException") = some true ∧ PySem.W.typeIn K (.ref (He.ga K k)) = some (.type "type") from fun k hk => all k (List.contains_iff_mem.mp hk)
  unfold exL
  have mk : ∀ {x : Str}, He.Fa.ok K (.exc x) = true → mg x = some (.ref (He.ga K x)) → PySem.W.excIn K (He.ga K x) He.veBase "ValueError.__new__" = true ∧ mg x = some (.ref (He.ga K x)) ∧ PySem.W.keepIn K (.ref (He.ga K x)) = true ∧
      PySem.W.subIn K (.ref (He.ga K x)) (.type "BaseException") = some true ∧ PySem.W.typeIn K (.ref (He.ga K x)) = some (.type "type") := fun {x} h1 h2 => by
    obtain ⟨a, b, c, d⟩ := He.exc_ok h1
    exact ⟨a, h2, b, c, d⟩
  refine List.forall_mem_cons.mpr ⟨mk (c.fact 54 (f := .exc "InvalidBike") rfl) (He.glo_ok X G (c.fact 53 (f := .glo "InvalidBike") rfl)), ?_⟩
  refine List.forall_mem_cons.mpr ⟨mk (c.fact 56 (f := .exc "InvalidGear") rfl) (He.glo_ok X G (c.fact 55 (f := .glo "InvalidGear") rfl)), ?_⟩
  exact fun _ h => nomatch h
theorem law_facts {P : Program} {f : Addr} (X : K.In h) (G : h.Ns mainGlobals mg) (hfa : mg ("law" : Str) = some (.ref f)) (c : He.SaysD fa fn K) :
    ∃ fd : FuncData, (∀ (s : Shared) (v : Value), BindsTo s fd ⟨[v], []⟩ [("_law_script", v)]) ∧ ∀ base : Heap, K.In base → base.Ns mainGlobals mg → FnOk P w K mg base (L2.CX P w) 8 f fd ["_law_script"] (spLaw K) := by
  obtain ⟨fd, F⟩ := c.def_ 31 (d := d_law) rfl
  have e := hfa.symm.trans (He.glo_ok X G (c.fact 31 (f := .glo "law") rfl))
  cases e
  have b := FunD.bindsA (ps := ["_law_script"]) F fun _ _ _ _ _ _ us hl => match us, hl with | [_], _ => rfl
  refine ⟨fd, fun s v => b s [v] rfl, fun base hb gb => ?_⟩
  have tab := all_ok (P := P) (w := w) (mg := mg) (base := base) (Γ := Γ) (dfs := dfs) (fr := frL) (cs := csL) (ex := exL) Γ_eq (facts_ok X G c) chks_ok runs_ok (free_all X G c) (cst_all X G c) (exn_all X G c) (fun N L z => absurd rfl z) 7 (by decide) N_law
  have cl := c_law
  rw [Bool.and_eq_true] at cl
  exact law_ok (T := ⟨Γ, N_law, 7, frL, csL, exL, hxL⟩) F (scC_ok cl.1) tab cl.2 law_run
end
end
end Cg
open PySem PySem.W PySem.Calls PyProof.Rows
theorem PySem.Challenge.cw_cogrings_k07_whole_shifts_holds : PySem.Challenge.rw_cogrings_k07_whole_shifts.Holds := by
  w_on; o_law
  refine HandSHeadRun.head_any (r := OpenLaw.row PySem.Challenge.rw_cogrings_k07_whole_shifts) (q := view (OpenLaw.row PySem.Challenge.rw_cogrings_k07_whole_shifts).prog [45]) (H := Cg.hk) (ob := Cg.ob) (M := 30000) (loose := Cg.loose) (d := HandSHeadRun.topDef (OpenLaw.row PySem.Challenge.rw_cogrings_k07_whole_shifts).prog 45) (kwd := []) Cg.ob_eq
    (by kernel_rfl) (fun s => by kernel_rfl) Cg.run (by kernel_rfl) (by kernel_rfl) (by kernel_rfl) (by rfl) (by first | assumption | decide +kernel) (by decide +kernel) ⟨rfl, rfl, rfl, rfl, rfl, by decide +kernel⟩ ?hw ?hc
  case hw => w_witness2
  case hc =>
    refine Cg.walkX (l := PySem.Challenge.rw_cogrings_k07_whole_shifts) (k := 8) (x := "_law_script") rfl (by kernel_rfl) ⟨rfl, by decide, by decide⟩ ?F
    intro w mg fa h Y G hmg0
    obtain ⟨K, KX, c⟩ := Y
    have hmg : mg ("law" : PySem.Str) = some (.ref fa) := by
      have e : (HandSHeadRun.topDef (OpenLaw.row PySem.Challenge.rw_cogrings_k07_whole_shifts).prog 45).name = ("law" : PySem.Str) := by kernel_rfl
      rw [← e]
      exact hmg0
    obtain ⟨fd, hb, hF⟩ := Cg.law_facts (P := (PySem.Challenge.rw_cogrings_k07_whole_shifts).prog) (w := w) KX G hmg c
    exact ⟨K, fd, KX, hb, hF⟩
