import PyProof.Rows.All
import Wide.All
import OpenK.AllK
import Wide.FinOn
import HandS.ForMost
import HandS.ForExc
import KE.SortData
import KE.KeyNested
import HandS.HeadHook1
import HandS.Style
import HandS.Conv
import KE.KDictSum
import KE.KDictCopyH
import HandS.Deep
import HandS.TupAny
import HandS.IsInst
import PyProof.ListMulAny
import HandS.Text
import HandS.RaiseMore
import HandS.ExcOwn
import HandS.Comp
import HandS.Dict
import HandS.SetKeys
import HandS.Iter
import KE.GoesMore
import KE.KDictZip
import KE.GoesZip
import PyProof.Rows.FactsT2
import HandS.Strs
import PyProof.Rows.SetFrom
import HandS.ExcValue
import PyProof.Transfer
import HandS.ExcIs
import HandS.SetFor
import KE.DataFind
import HandS.OwnIter
import KE.KDictDisplayH
import HandS.ReplaceLit
import HandS.Defaults
import HandS.HeadHook2
import PyProof.ExcBaseAll.ValueError
import KE.KStateDown
import Lean
import HandS.Head0
import HandS.Head1
import HandS.Head2
import HandS.HeadEnd
import PySem.Challenge.RW_fieldoffers_k03_whole_records
set_option Elab.async false
set_option linter.all false
/-! FoEval: the IR and its evaluator. -/
namespace FO
open PySem

/-- values: frozen data; a cell of the store; a caught exception -/
inductive W where
  | d (x : PyData) | ref (n : Nat) | exc (c : Nat)
/-- slots: not bound; a value; a list that only this slot holds -/
inductive Sl where
  | un | val (w : W) | own (xs : List PyData)
/-- cells: let go; a list of data; a list of values; a tuple of values; a dict; a dict that is only read from now on; an instance of a class -/
inductive Cell where
  | dead | lst (xs : List PyData) | lstW (xs : List W) | tupW (xs : List W) | dct (kvs : List (PyData × W)) | lck (kvs : List (PyData × W)) | ins (c : Nat) (fs : List (Str × W))
abbrev Sto := List Cell
abbrev Rho := List Sl
inductive Res (α : Type) where
  | ok (a : α) (S : Sto) | ex (c : Nat) (S : Sto) | bad
def Res.bind {α β : Type} : Res α → (α → Sto → Res β) → Res β
  | .ok a S, f => f a S
  | .ex c S, _ => .ex c S
  | .bad, _ => .bad
def Res.lift {α : Type} (S : Sto) : Option α → Res α
  | some a => .ok a S
  | none => .bad
def Res.noex {α : Type} : Res α → Res α
  | .ok a S => .ok a S
  | _ => .bad

inductive BinO where
  | add | sub | mul | fdiv | mod | pow
inductive CmpO where
  | eq | ne | lt | le | gt | ge | is_ | isnot | in_ | notin
inductive Bi where
  | len | list | tuple | min | max | sum | all | any | sorted | lenset | abs | str | int | sortset
inductive Bm where
  | index | startswith | count | join | split
inductive Ty where
  | int | str | bool | list | tuple
mutual
inductive Tg where
  | nm (i : Nat) | tp (ts : Tgs)
inductive Tgs where
  | nil | cons (t : Tg) (ts : Tgs)
end
mutual
inductive E where
  | c (x : PyData) | v (i : Nat) | g (i : Nat)
  | tup (es : Es) | lst (es : Es)
  | bin (o : BinO) (a b : E) | neg (a : E) | not (a : E) | and (a b : E) | or (a b : E)
  | cmp (o : CmpO) (a b : E) | chain (o p : CmpO) (a b c : E)
  | ife (t a b : E) | ix (a b : E) | sl (a lo hi : E)
  | call (f : Nat) (es : Es) | bi (b : Bi) (a : E) | bm (m : Bm) (o a : E) | isi (a : E) (t : Ty)
  | comp (tg : Tg) (it : It) (test elt : E)
  | newL (a : E) | newW (es : Es)
  | rev (a : E) | lrng (a : E) | max2 (a b : E) | repl (o a b : E) | isx (a : E) (c : Nat) | isv (a : E)
  | dnew (kvs : Es) | mkd (a : E) | get1 (o k : E) | get2 (o k x : E) | setd (o k x : E) | vals (o : E)
  | fld (c : Nat) (o : E) (f : Str) | mk (c f : Nat) (es : Es) | mc (c f : Nat) (m : Str) (o : E) (es : Es) | pop (o : E)
  | compW (i : Nat) (a test elt : E) | frz (a : E) | lenI (c f : Nat) (o : E)
inductive Es where
  | nil | cons (e : E) (es : Es)
inductive It where
  | e (a : E) | rng (a b : E) | enum (a : E) | zip (a b : E) | enz (a b : E)
end
mutual
inductive Sm where
  | asg (tg : Tg) (e : E) | own (i : Nat) (e : E) | par (is : List (Nat × Bool)) (es : Es) | frz (i : Nat) (s : Sm)
  | aug (i : Nat) (o : BinO) (e : E) | app (i : Nat) (e : E) | setix (o i e : E)
  | expr (e : E) | ret (e : E) | iff (c : E) (a b : Sms) | for_ (tg : Tg) (it : It) (b : Sms) | while_ (c : E) (b : Sms) | raise (c : Nat) | pass
  | appE (o e : E) | setf (c : Nat) (o : E) (f : Str) (e : E) | try_ (b : Sms) (c i j : Nat)
inductive Sms where
  | nil | cons (s : Sm) (r : Sms)
end

/-! ### data -/
def lim : Nat := 1000000
/-- the scalars, as == takes them without a look at their depth -/
def isSc : PyData → Bool
  | .none | .bool _ | .int _ | .str _ => true
  | _ => false
def isNon : PyData → Bool
  | .none => true
  | _ => false
def scP : PyData → PyData → Bool
  | .bool _, .int _ => false
  | .int _, .bool _ => false
  | a, b => isSc a && isSc b
def eqD (a b : PyData) : Option Bool := if scP a b || (SeqAt.shaped a && SeqAt.shaped b) then some (PyData.eqv a b) else none
instance (i j : Int) : Decidable (L2.CMul i j) := by unfold L2.CMul; infer_instance
instance (i j : Int) : Decidable (L2.CDiv i j) := by unfold L2.CDiv; infer_instance
instance (i j : Int) : Decidable (L2.CPow i j) := by unfold L2.CPow; infer_instance
def binD : BinO → PyData → PyData → Option PyData
  | .add, .int i, .int j => some (.int (i + j))
  | .add, .str x, .str y => if Nat.ble (x.length + y.length) lim then some (.str (x ++ y)) else none
  | .add, .list xs, .list ys => if Nat.ble (xs.length + ys.length) lim then some (.list (xs ++ ys)) else none
  | .add, .tuple xs, .tuple ys => if Nat.ble (xs.length + ys.length) lim then some (.tuple (xs ++ ys)) else none
  | .sub, .int i, .int j => some (.int (i - j))
  | .mul, .int i, .int j => if decide (L2.CMul i j) then some (.int (i * j)) else none
  | .mul, .list xs, .int j => if Nat.ble xs.length 100000 && (decide (0 ≤ j) && decide (j ≤ 100000)) && Nat.ble (xs.length * j.toNat) lim then some (.list (List.flatten (List.replicate j.toNat xs))) else none
  | .mul, .str x, .int j => if (decide (2 ≤ j) && decide (j ≤ 100000)) && (Nat.blt 0 x.length && Nat.ble (x.length * j.toNat) lim) then some (.str ⟨(List.replicate j.toNat x.cps).foldl (· ++ ·) #[]⟩) else none
  | .fdiv, .int i, .int j => if decide (L2.CDiv i j) then some (.int (i / j)) else none
  | .mod, .int i, .int j => if decide (0 < j) then some (.int (i % j)) else none
  | .pow, .int i, .int j => if decide (L2.CPow i j) then some (.int (i ^ j.toNat)) else none
  | _, _, _ => none
def cmpD : CmpO → PyData → PyData → Option PyData
  | .eq, a, b => (eqD a b).map .bool
  | .ne, a, b => (eqD a b).map fun k => .bool (!k)
  | .lt, .int i, .int j => some (.bool (decide (i < j)))
  | .le, .int i, .int j => some (.bool (decide (i ≤ j)))
  | .gt, .int i, .int j => some (.bool (decide (j < i)))
  | .ge, .int i, .int j => some (.bool (decide (j ≤ i)))
  | .is_, a, .none => some (.bool (isNon a))
  | .is_, .bool a, .bool b => some (.bool (decide (a = b)))
  | .isnot, a, .none => some (.bool (!isNon a))
  | .isnot, .bool a, .bool b => some (.bool (!decide (a = b)))
  | .in_, .str x, .str y => some (.bool (!(Builtin.Str.occurrences y x 0 y.length 1).isEmpty))
  | .notin, .str x, .str y => some (.bool (!(!(Builtin.Str.occurrences y x 0 y.length 1).isEmpty)))
  | .in_, a, .list ys => if SeqAt.shaped a && SeqAt.shaped (.list ys) then some (.bool (ys.any fun z => PyData.eqv z a)) else none
  | .notin, a, .list ys => if SeqAt.shaped a && SeqAt.shaped (.list ys) then some (.bool (!ys.any fun z => PyData.eqv z a)) else none
  | .in_, a, .tuple ys => if isSc a && ys.all isSc then some (.bool (ys.any fun z => PyData.eqv z a)) else none
  | .notin, a, .tuple ys => if isSc a && ys.all isSc then some (.bool (!ys.any fun z => PyData.eqv z a)) else none
  | _, _, _ => none
def ixD : PyData → PyData → Option PyData
  | .list xs, .int i => L2.atI xs i
  | .tuple xs, .int i => L2.atI xs i
  | .str z, .int i => if Nat.ble z.length lim then (L2.atI z.cps.toList i).map fun c => .str ⟨#[c]⟩ else none
  | _, _ => none
def cutD {α : Type} (xs : List α) (lo hi : Option Int) : List α := (xs.drop (HT.sIx xs.length 0 lo)).take (HT.sIx xs.length xs.length hi - HT.sIx xs.length 0 lo)
def slD (a : PyData) (lo hi : Option Int) : Option PyData :=
  match a with
  | .list xs => some (.list (cutD xs lo hi))
  | .tuple xs => some (.tuple (cutD xs lo hi))
  | .str z => if Nat.ble z.length lim then some (.str (L2.cutS z lo hi)) else none
  | _ => none
def strItems (z : Str) : List PyData := z.cps.toList.map fun c => .str ⟨#[c]⟩
/-- what is walked -/
def itemsD : PyData → Option (List PyData)
  | .list xs => some xs
  | .tuple xs => some xs
  | .str z => if Nat.ble z.length lim then some (strItems z) else none
  | _ => none
/-- what enumerate takes -/
def itemsE : PyData → Option (List PyData)
  | .list xs => some xs
  | .str z => if Nat.ble z.length lim then some (strItems z) else none
  | _ => none
def intOf : PyData → Option Int
  | .int i => some i
  | _ => none
def boolOf : PyData → Option Bool
  | .bool b => some b
  | _ => none
def strOf : PyData → Option Str
  | .str x => some x
  | _ => none
/-- keys of dicts: ints, strs, tuples of such -/
def keyOk : Nat → PyData → Bool
  | _, .int _ => true
  | _, .str _ => true
  | n + 1, .tuple xs => xs.all (keyOk n)
  | _, _ => false
def isTupD : PyData → Bool
  | .tuple _ => true
  | _ => false
def kOk (kvs : List (PyData × W)) (k : PyData) : Bool := keyOk 8 k && match kvs with
  | [] => true
  | p :: _ => isTupD p.1 == isTupD k
def dget (kvs : List (PyData × W)) (k : PyData) : Option W := (kvs.find? fun p => PyData.eqv p.1 k).map (·.2)
def dhas (kvs : List (PyData × W)) (k : PyData) : Bool := kvs.any fun p => PyData.eqv p.1 k
def dput (kvs : List (PyData × W)) (k : PyData) (w : W) : List (PyData × W) := if dhas kvs k then kvs.map (fun p => if PyData.eqv p.1 k then (p.1, w) else p) else kvs ++ [(k, w)]
/-- the order of data; what sorted takes -/
def leD (a b : PyData) : Bool := !PySem.W.dataLt b a
def srtOk (xs : List PyData) : Bool := (xs.all fun a => xs.all fun b => PySem.W.alike a b) && ((xs.all fun a => match a with
  | .tuple (_ :: _) => true
  | _ => false) || (xs.all fun a => match a with
  | .none => false
  | .tuple _ => false
  | _ => true)) && (xs.all fun a => decide (a.depth ≤ 60)) && Nat.ble xs.length lim
def sortD (xs : List PyData) : Option (List PyData) := if srtOk xs then some (xs.mergeSort leD) else none
def minI : List Int → Option Int
  | [] => none
  | x :: r => some (r.foldl min x)
def maxI : List Int → Option Int
  | [] => none
  | x :: r => some (r.foldl max x)
def sortS (xs : List Str) : List Str := xs.mergeSort fun a b => decide (a.cps.toList ≤ b.cps.toList)
def dedup (xs : List Str) : List Str := xs.eraseDups
def biD : Bi → PyData → Option PyData
  | .len, .list xs => some (.int xs.length)
  | .len, .tuple xs => some (.int xs.length)
  | .len, .dict kvs => some (.int kvs.length)
  | .len, .str z => if Nat.ble z.length lim then some (.int z.length) else none
  | .list, .list xs => some (.list xs)
  | .list, .tuple xs => some (.list xs)
  | .list, .str z => if Nat.ble z.length lim then some (.list (strItems z)) else none
  | .tuple, .list xs => some (.tuple xs)
  | .tuple, .tuple xs => some (.tuple xs)
  | .min, .list xs => ((xs.mapM intOf).bind minI).map .int
  | .max, .list xs => ((xs.mapM intOf).bind maxI).map .int
  | .sum, .list xs => (xs.mapM intOf).map fun ns => .int ns.sum
  | .all, .list xs => (xs.mapM boolOf).map fun bs => .bool (bs.all id)
  | .any, .list xs => (xs.mapM boolOf).map fun bs => .bool (bs.any id)
  | .sorted, .list xs => (match xs.mapM strOf with
    | some ss => if Nat.blt ss.length 64 then some (.list ((sortS ss).map .str)) else none
    | none => (sortD xs).map .list)
  | .sorted, .dict kvs => (sortD (kvs.map (·.1))).map .list
  | .sorted, .tuple xs => (xs.mapM strOf).bind fun ss => if Nat.blt ss.length 64 then some (.list ((sortS ss).map .str)) else none
  | .str, .str x => some (.str x)
  | .str, .int i => if Nat.blt i.natAbs.log2 1920 then some (.str (toString i)) else none
  | .int, .str x => if Nat.ble x.length 640 then (PySem.intText? x).map .int else none
  | .lenset, .list xs => (xs.mapM strOf).bind fun ss => if Nat.blt ss.length 64 then some (.int (dedup ss).length) else none
  | _, _ => none
def idxD (a : PyData) : List PyData → Option Nat
  | [] => none
  | x :: r => if PyData.eqv x a then some 0 else (idxD a r).map (· + 1)
def bmD : Bm → PyData → PyData → Option PyData
  | .index, .list xs, a => if SeqAt.shaped a && SeqAt.shaped (.list xs) then (idxD a xs).map fun (n : Nat) => PyData.int n else none
  | .startswith, .str x, .str y => some (.bool (Txt.startswith x y))
  | .count, .list xs, a => if SeqAt.shaped a && SeqAt.shaped (.list xs) then some (.int ((xs.filter fun z => PyData.eqv z a).length : Nat)) else none
  | .join, .str x, .list ys => (ys.mapM strOf).bind fun ss => if Nat.ble ((ss.map (·.length)).sum + ss.length * x.length) lim then some (.str (Txt.join x ss)) else none
  | .split, .str x, .str y => if Nat.blt 0 y.length && Nat.ble x.length lim then some (.list ((Txt.split x y).map .str)) else none
  | _, _, _ => none
def tyD : PyData → Ty → Option Bool
  | .none, _ => some false
  | .bool _, .int => some true
  | .bool _, .bool => some true
  | .bool _, _ => some false
  | .int _, .int => some true
  | .int _, _ => some false
  | .str _, .str => some true
  | .str _, _ => some false
  | .list _, .list => some true
  | .list _, _ => some false
  | .tuple _, .tuple => some true
  | .tuple _, _ => some false
  | _, _ => none

/-! ### expressions -/
/-- a value as data, as it stands now; of a dict the keys -/
def vw (S : Sto) : W → Option PyData
  | .d x => some x
  | .ref n => match S[n]? with
    | some (.lst xs) => some (.list xs)
    | some (.dct kvs) => some (.dict (kvs.map fun p => (p.1, .none)))
    | some (.lck kvs) => some (.dict (kvs.map fun p => (p.1, .none)))
    | _ => none
  | .exc _ => none
def dctAt (S : Sto) (n : Nat) : Option (List (PyData × W)) := match S[n]? with
  | some (.dct kvs) => some kvs
  | some (.lck kvs) => some kvs
  | _ => none
/-- let go: what is frozen never changes again -/
def thaw1 (S : Sto) : W → Option (PyData × Sto)
  | .d x => some (x, S)
  | .ref n => match S[n]? with
    | some (.lst xs) => some (.list xs, S.set n .dead)
    | _ => none
  | .exc _ => none
def thawL : List W → Sto → Option (List PyData × Sto)
  | [], S => some ([], S)
  | w :: r, S => (thaw1 S w).bind fun p => (thawL r p.2).map fun q => (p.1 :: q.1, q.2)
def thaw (S : Sto) : W → Option (PyData × Sto)
  | .d x => some (x, S)
  | .ref n => match S[n]? with
    | some (.lst xs) => some (.list xs, S.set n .dead)
    | some (.lstW ws) => (thawL ws (S.set n .dead)).map fun p => (.list p.1, p.2)
    | _ => none
  | .exc _ => none
/-- a slice's bound: left out, or an int -/
def bndW : E → W → Option (Option Int)
  | .c .none, .d .none => some none
  | _, .d (.int i) => some (some i)
  | _, _ => none
def bmOk : Bm → Option PyData → Option Unit
  | .index, some (.list _) => some ()
  | .startswith, some (.str _) => some ()
  | .count, some (.list _) => some ()
  | .join, some (.str _) => some ()
  | .split, some (.str _) => some ()
  | _, _ => none
/-- an operand that is looked at and let go -/
def argm (r : Res W) (a : E) (ρ : Rho) (S : Sto) : Res W :=
  match a with
  | .v i => match ρ[i]? with
    | some (.own xs) => .ok (.d (.list xs)) S
    | _ => r
  | _ => r
def Res.data (r : Res W) (f : PyData → Option PyData) : Res W := r.bind fun w S => Res.lift S (((vw S w).bind f).map .d)
mutual
def asgT : Tg → PyData → Rho → Option Rho
  | .nm i, x, ρ => if i < ρ.length then some (ρ.set i (.val (.d x))) else none
  | .tp ts, .tuple xs, ρ => asgTs ts xs ρ
  | .tp _, _, _ => none
def asgTs : Tgs → List PyData → Rho → Option Rho
  | .nil, [], ρ => some ρ
  | .cons t ts, x :: xs, ρ => (asgT t x ρ).bind fun ρ' => asgTs ts xs ρ'
  | _, _, _ => none
end
mutual
def tgOwn : Tg → List Nat
  | .nm i => [i]
  | .tp ts => tgsOwn ts
def tgsOwn : Tgs → List Nat
  | .nil => []
  | .cons t ts => tgOwn t ++ tgsOwn ts
end
def wipeR : List Nat → Rho → Rho
  | [], ρ => ρ
  | v :: vs, ρ => (wipeR vs ρ).set v .un
def compL (g : PyData → Sto → Res (Option PyData)) : List PyData → Sto → Res (List PyData)
  | [], S => .ok [] S
  | x :: r, S => (g x S).bind fun o S1 => (compL g r S1).bind fun ys S2 => match o with
    | some y => .ok (y :: ys) S2
    | none => .ok ys S2
def enumD (n : Nat) : List PyData → List PyData
  | [] => []
  | x :: r => .tuple [.int n, x] :: enumD (n + 1) r
def rngD (a : Int) : Nat → List PyData
  | 0 => []
  | n + 1 => .int a :: rngD (a + 1) n
def rngOk (a b : Int) : Bool := decide (-1000000 ≤ a) && decide (a ≤ 1000000) && decide (-1000000 ≤ b) && decide (b ≤ 1000000)
def rngR (S : Sto) (x y : PyData) : Res (List PyData) := match x, y with
  | .int a, .int b => if rngOk a b then .ok (rngD a (b - a).toNat) S else .bad
  | _, _ => .bad
def allD : List W → Option (List PyData)
  | [] => some []
  | .d x :: r => (allD r).map (x :: ·)
  | _ :: _ => none
def truth (r : Res W) (k : Bool → Sto → Res W) : Res W := r.bind fun w S => match w with
  | .d (.bool b) => k b S
  | _ => .bad
/-- the program: its constants, and what a call of a def does -/
structure Pg where
  gc : Nat → Option PyData
  fn : Nat → List W → Sto → Res W
/-- w[u] -/
def ixW (S : Sto) : W → W → Res W
  | .ref n, .d y => (match S[n]? with
    | some (.lst xs) => (match y with
      | .int i => Res.lift S ((L2.atI xs i).map .d)
      | _ => .bad)
    | some (.lstW xs) => (match y with
      | .int i => Res.lift S (L2.atI xs i)
      | _ => .bad)
    | some (.tupW xs) => (match y with
      | .int i => Res.lift S (L2.atI xs i)
      | _ => .bad)
    | some (.dct kvs) => if kOk kvs y then Res.lift S (dget kvs y) else .bad
    | some (.lck kvs) => if kOk kvs y then Res.lift S (dget kvs y) else .bad
    | _ => .bad)
  | .d x, .d y => Res.lift S ((ixD x y).map .d)
  | _, _ => .bad
def revD : PyData → Option PyData
  | .list xs => some (.list xs.reverse)
  | _ => none
def replD : PyData → PyData → PyData → Option PyData
  | .str x, .str y, .str z => if !(y == z) && Nat.ble (x.length + (x.length + 1) * z.length) lim then some (.str (Txt.replace x y z)) else none
  | _, _, _ => none
/-- comparisons: of data; of what is no data with None; k in d; d == {} -/
def cmpW (o : CmpO) (S : Sto) (w u : W) : Option PyData := match o, w, u with
  | .is_, .exc _, .d .none => some (.bool false)
  | .isnot, .exc _, .d .none => some (.bool true)
  | .is_, .ref _, .d .none => some (.bool false)
  | .isnot, .ref _, .d .none => some (.bool true)
  | .in_, .d x, .ref n => (match S[n]? with
    | some (.dct kvs) => if kOk kvs x then some (.bool (dhas kvs x)) else none
    | some (.lck kvs) => if kOk kvs x then some (.bool (dhas kvs x)) else none
    | some (.lst ys) => cmpD .in_ x (.list ys)
    | _ => none)
  | .notin, .d x, .ref n => (match S[n]? with
    | some (.dct kvs) => if kOk kvs x then some (.bool (!dhas kvs x)) else none
    | some (.lck kvs) => if kOk kvs x then some (.bool (!dhas kvs x)) else none
    | some (.lst ys) => cmpD .notin x (.list ys)
    | _ => none)
  | o, w, u => (vw S w).bind fun x => (vw S u).bind fun y => cmpD o x y
/-- a tuple, a list of values: data, or a new cell -/
def mkTup (ws : List W) (S : Sto) : Res W := if Nat.ble ws.length lim then (match allD ws with
  | some ds => .ok (.d (.tuple ds)) S
  | none => .ok (.ref S.length) (S ++ [.tupW ws])) else .bad
def mkLst (ws : List W) (S : Sto) : Res W := if Nat.ble ws.length lim then (match allD ws with
  | some ds => .ok (.d (.list ds)) S
  | none => .ok (.ref S.length) (S ++ [.lstW ws])) else .bad
/-- exceptions: the first is the base of all -/
def exSub (c d : Nat) : Bool := c == d || d == 0
/-- keys and values in turn -/
def pairUp : List W → List (PyData × W) → Option (List (PyData × W))
  | [], acc => some acc
  | .d k :: w :: r, acc => if kOk acc k then pairUp r (dput acc k w) else none
  | _, _ => none
def pairsOf : List PyData → List (PyData × W) → Option (List (PyData × W))
  | [], acc => some acc
  | .tuple [k, x] :: r, acc => if kOk acc k then pairsOf r (dput acc k (.d x)) else none
  | _ :: _, _ => none
def zipD : List PyData → List PyData → List PyData
  | x :: xs, y :: ys => .tuple [x, y] :: zipD xs ys
  | _, _ => []
/-- what zip takes -/
def itemsZ : PyData → Option (List PyData)
  | .list xs => some xs
  | .tuple xs => some xs
  | _ => none
def compWL (g : W → Sto → Res (Option W)) : List W → Sto → Res (List W)
  | [], S => .ok [] S
  | x :: r, S => (g x S).bind fun o S1 => (compWL g r S1).bind fun ys S2 => match o with
    | some y => .ok (y :: ys) S2
    | none => .ok ys S2
mutual
def ev (P : Pg) : E → Rho → Sto → Res W
  | .c x, _, S => .ok (.d x) S
  | .v i, ρ, S => match ρ[i]? with
    | some (.val w) => .ok w S
    | _ => .bad
  | .g i, _, S => Res.lift S ((P.gc i).map .d)
  | .tup es, ρ, S => (evs P es ρ S).bind fun ws S1 => mkTup ws S1
  | .lst es, ρ, S => (evs P es ρ S).bind fun ws S1 => mkLst ws S1
  | .bin o a b, ρ, S => (argm (ev P a ρ S) a ρ S).bind fun w S1 => (argm (ev P b ρ S1) b ρ S1).bind fun u S2 =>
      Res.lift S2 ((((vw S2 w).bind fun x => (vw S2 u).bind fun y => binD o x y)).map .d)
  | .neg a, ρ, S => (ev P a ρ S).bind fun w S1 => match w with
    | .d (.int i) => .ok (.d (.int (-i))) S1
    | _ => .bad
  | .not a, ρ, S => truth (ev P a ρ S) fun b S1 => .ok (.d (.bool (!b))) S1
  | .and a b, ρ, S => truth (ev P a ρ S) fun k S1 => if k then truth (ev P b ρ S1) fun l S2 => .ok (.d (.bool l)) S2 else .ok (.d (.bool false)) S1
  | .or a b, ρ, S => truth (ev P a ρ S) fun k S1 => if k then .ok (.d (.bool true)) S1 else truth (ev P b ρ S1) fun l S2 => .ok (.d (.bool l)) S2
  | .cmp o a b, ρ, S => (argm (ev P a ρ S) a ρ S).bind fun w S1 => (argm (ev P b ρ S1) b ρ S1).bind fun u S2 =>
      Res.lift S2 ((cmpW o S2 w u).map .d)
  | .chain o p a b c, ρ, S => (argm (ev P a ρ S) a ρ S).bind fun w S1 => (argm (ev P b ρ S1) b ρ S1).bind fun u S2 =>
      truth (Res.lift S2 ((((vw S2 w).bind fun x => (vw S2 u).bind fun y => cmpD o x y)).map .d)) fun k S3 =>
        if k then (argm (ev P c ρ S3) c ρ S3).bind fun z S4 => Res.lift S4 ((((vw S4 u).bind fun x => (vw S4 z).bind fun y => cmpD p x y)).map .d)
        else .ok (.d (.bool false)) S3
  | .ife t a b, ρ, S => truth (ev P t ρ S) fun k S1 => if k then ev P a ρ S1 else ev P b ρ S1
  | .ix a b, ρ, S => (argm (ev P a ρ S) a ρ S).bind fun w S1 => (ev P b ρ S1).bind fun u S2 => ixW S2 w u
  | .sl a lo hi, ρ, S => (argm (ev P a ρ S) a ρ S).bind fun w S1 => (ev P lo ρ S1).bind fun l S2 => (Res.lift S2 (bndW lo l)).bind fun lo' S3 =>
      (ev P hi ρ S3).bind fun h S4 => (Res.lift S4 (bndW hi h)).bind fun hi' S5 => Res.lift S5 (((vw S5 w).bind fun x => slD x lo' hi').map .d)
  | .call f es, ρ, S => (evs P es ρ S).bind fun ws S1 => P.fn f ws S1
  | .bi b a, ρ, S => (argm (ev P a ρ S) a ρ S).data (biD b)
  | .bm m o a, ρ, S => (argm (ev P o ρ S) o ρ S).bind fun w S1 => (Res.lift S1 (bmOk m (vw S1 w))).bind fun _ S1' => (argm (ev P a ρ S1') a ρ S1').bind fun u S2 =>
      Res.lift S2 ((((vw S2 w).bind fun x => (vw S2 u).bind fun y => bmD m x y)).map .d)
  | .isi a t, ρ, S => (argm (ev P a ρ S) a ρ S).data fun x => (tyD x t).map .bool
  | .comp tg it test elt, ρ, S => (evi P it ρ S).bind fun ds S1 => if Nat.ble ds.length lim then
      (compL (fun x S2 => match asgT tg x (wipeR (tgOwn tg) ρ) with
        | none => .bad
        | some ρ' => ((ev P test ρ' S2).bind fun t S3 => match t with
          | .d (.bool true) => (ev P elt ρ' S3).bind fun w S4 => (match thaw S4 w with
            | some q => .ok (some q.1) q.2
            | none => .bad)
          | .d (.bool false) => .ok none S3
          | _ => .bad).noex) ds S1).bind fun ys S5 => .ok (.d (.list ys)) S5 else .bad
  | .newL a, ρ, S => (ev P a ρ S).bind fun w S1 => match w with
    | .d (.list xs) => .ok (.ref S1.length) (S1 ++ [.lst xs])
    | _ => .bad
  | .newW es, ρ, S => (evs P es ρ S).bind fun ws S1 => .ok (.ref S1.length) (S1 ++ [.lstW ws])
  | .rev a, ρ, S => (argm (ev P a ρ S) a ρ S).data revD
  | .lrng a, ρ, S => (ev P a ρ S).bind fun w S1 => match w with
    | .d (.int i) => (rngR S1 (.int 0) (.int i)).bind fun ds S2 => .ok (.d (.list ds)) S2
    | _ => .bad
  | .max2 a b, ρ, S => (ev P a ρ S).bind fun w S1 => (ev P b ρ S1).bind fun u S2 => match w, u with
    | .d (.int i), .d (.int j) => .ok (.d (.int (max i j))) S2
    | _, _ => .bad
  | .repl o a b, ρ, S => (ev P o ρ S).bind fun w S1 => (ev P a ρ S1).bind fun u S2 => (ev P b ρ S2).bind fun z S3 => match w, u, z with
    | .d x, .d y, .d t => Res.lift S3 ((replD x y t).map .d)
    | _, _, _ => .bad
  | .isx a c, ρ, S => (ev P a ρ S).bind fun w S1 => match w with
    | .exc k => if Nat.blt k 8 && Nat.blt c 8 then .ok (.d (.bool (exSub k c))) S1 else .bad
    | _ => .bad
  | .isv a, ρ, S => (ev P a ρ S).bind fun w S1 => match w with
    | .exc k => if Nat.blt k 8 then .ok (.d (.bool true)) S1 else .bad
    | _ => .bad
  | .dnew kvs, ρ, S => (evs P kvs ρ S).bind fun ws S1 => match pairUp ws [] with
    | some kvs => .ok (.ref S1.length) (S1 ++ [.dct kvs])
    | none => .bad
  | .mkd a, ρ, S => (argm (ev P a ρ S) a ρ S).bind fun w S1 => match vw S1 w with
    | some (.list xs) => (match pairsOf xs [] with
      | some kvs => .ok (.ref S1.length) (S1 ++ [.dct kvs])
      | none => .bad)
    | _ => .bad
  | .get1 o k, ρ, S => (ev P o ρ S).bind fun w S1 => match w with
    | .ref n => if (dctAt S1 n).isSome then (ev P k ρ S1).bind fun u S2 => (match dctAt S2 n, u with
      | some kvs, .d y => if kOk kvs y then .ok ((dget kvs y).getD (.d .none)) S2 else .bad
      | _, _ => .bad) else .bad
    | _ => .bad
  | .get2 o k x, ρ, S => (ev P o ρ S).bind fun w S1 => match w with
    | .ref n => if (dctAt S1 n).isSome then (ev P k ρ S1).bind fun u S2 => (ev P x ρ S2).bind fun z S3 => (match dctAt S3 n, u with
      | some kvs, .d y => if kOk kvs y then .ok ((dget kvs y).getD z) S3 else .bad
      | _, _ => .bad) else .bad
    | _ => .bad
  | .setd o k x, ρ, S => (ev P o ρ S).bind fun w S1 => match w with
    | .ref n => if (dctAt S1 n).isSome then (ev P k ρ S1).bind fun u S2 => (ev P x ρ S2).bind fun z S3 => (match S3[n]?, u with
      | some (.dct kvs), .d y => if kOk kvs y && Nat.blt kvs.length lim then (match dget kvs y with
        | some v => .ok v S3
        | none => .ok z (S3.set n (.dct (kvs ++ [(y, z)])))) else .bad
      | _, _ => .bad) else .bad
    | _ => .bad
  | .vals o, ρ, S => (ev P o ρ S).bind fun w S1 => match w with
    | .ref n => (match dctAt S1 n with
      | some kvs => Res.lift S1 (((allD (kvs.map (·.2))).map .list).map .d)
      | none => .bad)
    | _ => .bad
  | .fld c o f, ρ, S => (ev P o ρ S).bind fun w S1 => match w with
    | .ref n => (match S1[n]? with
      | some (.ins k fs) => if k = c then Res.lift S1 (fs.lookup f) else .bad
      | _ => .bad)
    | _ => .bad
  | .mk c f es, ρ, S => (evs P es ρ S).bind fun ws S1 => (P.fn f (.ref S1.length :: ws) (S1 ++ [.ins c []])).bind fun r S2 => match r with
    | .d .none => .ok (.ref S1.length) S2
    | _ => .bad
  | .mc c f m o es, ρ, S => (ev P o ρ S).bind fun w S1 => match w with
    | .ref n => (match S1[n]? with
      | some (.ins k fs) => if k = c ∧ (fs.lookup m).isNone = true then (evs P es ρ S1).bind fun ws S2 => P.fn f (.ref n :: ws) S2 else .bad
      | _ => .bad)
    | _ => .bad
  | .pop o, ρ, S => (ev P o ρ S).bind fun w S1 => match w with
    | .ref n => (match S1[n]? with
      | some (.lst xs) => (match xs.getLast? with
        | some x => .ok (.d x) (S1.set n (.lst xs.dropLast))
        | none => .bad)
      | _ => .bad)
    | _ => .bad
  | .compW i a test elt, ρ, S => (ev P a ρ S).bind fun w S1 => match w with
    | .ref n => (match S1[n]? with
      | some (.lstW ws) => if Nat.ble ws.length lim then (compWL (fun x S2 => if i < ρ.length then (match S2[n]? with
          | some (.lstW _) => ((ev P test (ρ.set i (.val x)) S2).bind fun t S3 => match t with
            | .d (.bool true) => (ev P elt (ρ.set i (.val x)) S3).bind fun w S4 => .ok (some w) S4
            | .d (.bool false) => .ok none S3
            | _ => .bad).noex
          | _ => .bad) else .bad) ws S1).bind fun ys S5 => .ok (.ref S5.length) (S5 ++ [.lstW ys]) else .bad
      | _ => .bad)
    | _ => .bad
  | .frz a, ρ, S => (ev P a ρ S).bind fun w S1 => match thaw S1 w with
    | some (x, S2) => .ok (.d x) S2
    | none => .bad
  | .lenI c f o, ρ, S => (ev P o ρ S).bind fun w S1 => match w with
    | .ref n => (match S1[n]? with
      | some (.ins k _) => if k = c then (P.fn f [.ref n] S1).noex.bind fun r S2 => (match r with
        | .d (.int i) => if 0 ≤ i ∧ i < 1000000 then .ok (.d (.int i)) S2 else .bad
        | _ => .bad) else .bad
      | _ => .bad)
    | _ => .bad
def evs (P : Pg) : Es → Rho → Sto → Res (List W)
  | .nil, _, S => .ok [] S
  | .cons e es, ρ, S => (ev P e ρ S).bind fun w S1 => (evs P es ρ S1).bind fun ws S2 => .ok (w :: ws) S2
def evi (P : Pg) : It → Rho → Sto → Res (List PyData)
  | .e a, ρ, S => (argm (ev P a ρ S) a ρ S).bind fun w S1 => (match w with
    | .d x => Res.lift S1 (itemsD x)
    | .ref n => (match S1[n]? with
      | some (.dct kvs) => .ok (kvs.map (·.1)) (S1.set n (.lck kvs))
      | some (.lck kvs) => .ok (kvs.map (·.1)) S1
      | _ => .bad)
    | _ => .bad)
  | .rng a b, ρ, S => (ev P a ρ S).bind fun w S1 => (ev P b ρ S1).bind fun u S2 => (match w, u with
    | .d x, .d y => rngR S2 x y
    | _, _ => .bad)
  | .enum a, ρ, S => (argm (ev P a ρ S) a ρ S).bind fun w S1 => (match w with
    | .d x => Res.lift S1 ((itemsE x).map (enumD 0))
    | _ => .bad)
  | .zip a b, ρ, S => (ev P a ρ S).bind fun w S1 => (ev P b ρ S1).bind fun u S2 => (match w, u with
    | .d x, .d y => Res.lift S2 ((itemsZ x).bind fun xs => (itemsZ y).map fun ys => zipD xs ys)
    | _, _ => .bad)
  | .enz a b, ρ, S => (ev P a ρ S).bind fun w S1 => (ev P b ρ S1).bind fun u S2 => (match w, u with
    | .d (.list xs), .d (.list ys) => .ok (enumD 0 (zipD xs ys)) S2
    | _, _ => .bad)
end

/-! ### statements -/
inductive Fl where
  | next (ρ : Rho) (S : Sto) | ret (w : W) (S : Sto) | ex (c : Nat) (ρ : Rho) (S : Sto) | bad
def Fl.of {α : Type} (ρ : Rho) : Res α → (α → Sto → Fl) → Fl
  | .ok a S, k => k a S
  | .ex c S, _ => .ex c ρ S
  | .bad, _ => .bad
def Fl.then : Fl → (Rho → Sto → Fl) → Fl
  | .next ρ S, k => k ρ S
  | f, _ => f
/-- slots of the names that stand in an expression as values: what they hold alone is let go (frozen) -/
def frzAt (ρ : Rho) (i : Nat) : Rho := match ρ[i]? with
  | some (.own xs) => ρ.set i (.val (.d (.list xs)))
  | _ => ρ
/-- only a name itself is let go as a whole -/
def frzE (ρ : Rho) : E → Rho
  | .v i => frzAt ρ i
  | _ => ρ
def frzI (ρ : Rho) : It → Rho
  | .e a => frzE ρ a
  | .enum a => frzE ρ a
  | _ => ρ
def forL (body : PyData → Rho → Sto → Fl) : List PyData → Rho → Sto → Fl
  | [], ρ, S => .next ρ S
  | x :: r, ρ, S => (body x ρ S).then fun ρ' S' => forL body r ρ' S'
def whileL (c : Rho → Sto → Res W) (body : Rho → Sto → Fl) : Nat → Rho → Sto → Fl
  | 0, _, _ => .bad
  | n + 1, ρ, S => Fl.of ρ (c ρ S) fun w S1 => match w with
    | .d (.bool true) => (body ρ S1).then fun ρ' S' => whileL c body n ρ' S'
    | .d (.bool false) => .next ρ S1
    | _ => .bad
/-- a value for a slot; or a new list that it alone holds -/
def ownS : Bool → W → Option Sl
  | false, w => some (.val w)
  | true, .d (.list xs) => some (.own xs)
  | true, _ => none
def evp (P : Pg) : List Bool → Es → Rho → Sto → Res (List Sl)
  | [], .nil, _, S => .ok [] S
  | b :: bs, .cons e es, ρ, S => (ev P e ρ S).bind fun w S1 => (Res.lift S1 (ownS b w)).bind fun s S2 => (evp P bs es ρ S2).bind fun ss S3 => .ok (s :: ss) S3
  | _, _, _, _ => .bad
def setAll : List Nat → List Sl → Rho → Option Rho
  | [], [], ρ => some ρ
  | i :: is, s :: ss, ρ => if i < ρ.length then setAll is ss (ρ.set i s) else none
  | _, _, _ => none
def asgW : Tg → W → Rho → Option Rho
  | .nm i, w, ρ => if i < ρ.length then some (ρ.set i (.val w)) else none
  | t, .d x, ρ => asgT t x ρ
  | _, _, _ => none
/-- a field is stored -/
def fput (f : Str) (w : W) : List (Str × W) → List (Str × W)
  | [] => [(f, w)]
  | (g, x) :: r => if g = f then (g, w) :: r else (g, x) :: fput f w r
mutual
def exS (P : Pg) (fu : Nat) : Sm → Rho → Sto → Fl
  | .asg tg e, ρ, S => let ρ1 := frzE ρ e; Fl.of ρ1 (ev P e ρ1 S) fun w S1 => match asgW tg w ρ1 with
    | some ρ' => .next ρ' S1
    | none => .bad
  | .own i e, ρ, S => Fl.of ρ (ev P e ρ S) fun w S1 => (match w with
    | .d (.list xs) => if i < ρ.length then .next (ρ.set i (.own xs)) S1 else .bad
    | _ => .bad)
  | .par is es, ρ, S => Fl.of ρ (evp P (is.map (·.2)) es ρ S) fun ss S1 => match setAll (is.map (·.1)) ss ρ with
    | some ρ' => .next ρ' S1
    | none => .bad
  | .frz i s, ρ, S => (match ρ[i]? with
    | some (.val (.ref n)) => (match thaw S (.ref n) with
      | some (x, S1) => exS P fu s (ρ.set i (.val (.d x))) S1
      | none => .bad)
    | _ => exS P fu s (frzAt ρ i) S)
  | .aug i o e, ρ, S => (match ρ[i]? with
    | some (.own xs) => Fl.of ρ (ev P e ρ S) fun w S1 => (match o, w with
      | .add, .d (.list ys) => if Nat.ble (xs.length + ys.length) lim then .next (ρ.set i (.own (xs ++ ys))) S1 else .bad
      | _, _ => .bad)
    | some (.val (.d x)) => if isSc x then Fl.of ρ (ev P e ρ S) fun w S1 => (match w with
        | .d y => if isSc y then (match binD o x y with
          | some z => .next (ρ.set i (.val (.d z))) S1
          | none => .bad) else .bad
        | _ => .bad) else .bad
    | some (.val (.ref n)) => Fl.of ρ (ev P e ρ S) fun w S1 => (match o, S1[n]?, w with
      | .add, some (.lst xs), .d (.list ys) => if Nat.ble (xs.length + ys.length) lim then .next ρ (S1.set n (.lst (xs ++ ys))) else .bad
      | _, _, _ => .bad)
    | _ => .bad)
  | .app i e, ρ, S => let ρ1 := frzE ρ e; (match ρ1[i]? with
    | some (.own xs) => Fl.of ρ1 (ev P e ρ1 S) fun w S1 => (match w with
      | .d x => if Nat.blt xs.length lim then .next (ρ1.set i (.own (xs ++ [x]))) S1 else .bad
      | _ => .bad)
    | _ => .bad)
  | .setix o i e, ρ, S => Fl.of ρ (ev P e ρ S) fun w S1 => Fl.of ρ (ev P o ρ S1) fun ow S2 => Fl.of ρ (ev P i ρ S2) fun iw S3 => (match ow, iw with
    | .ref n, .d (.int k) => (match S3[n]?, w with
      | some (.lst xs), .d x => (match L2.ixN xs.length k with
        | some j => .next ρ (S3.set n (.lst (xs.set j x)))
        | none => .bad)
      | some (.lstW xs), w => (match L2.ixN xs.length k with
        | some j => .next ρ (S3.set n (.lstW (xs.set j w)))
        | none => .bad)
      | some (.dct kvs), w => if kOk kvs (.int k) && Nat.blt kvs.length lim then .next ρ (S3.set n (.dct (dput kvs (.int k) w))) else .bad
      | _, _ => .bad)
    | .ref n, .d x => (match S3[n]? with
      | some (.dct kvs) => if kOk kvs x && Nat.blt kvs.length lim then .next ρ (S3.set n (.dct (dput kvs x w))) else .bad
      | _ => .bad)
    | _, _ => .bad)
  | .expr e, ρ, S => Fl.of ρ (ev P e ρ S) fun _ S1 => .next ρ S1
  | .ret e, ρ, S => let ρ1 := frzE ρ e; Fl.of ρ1 (ev P e ρ1 S) fun w S1 => .ret w S1
  | .iff c a b, ρ, S => Fl.of ρ (ev P c ρ S) fun w S1 => (match w with
    | .d (.bool true) => exSs P fu a ρ S1
    | .d (.bool false) => exSs P fu b ρ S1
    | _ => .bad)
  | .for_ tg it b, ρ, S => let ρ1 := frzI ρ it; Fl.of ρ1 (evi P it ρ1 S) fun ds S1 =>
      forL (fun x ρ' S' => match asgT tg x ρ' with
        | some ρ2 => exSs P fu b ρ2 S'
        | none => .bad) ds ρ1 S1
  | .while_ c b, ρ, S => whileL (fun ρ' S' => ev P c ρ' S') (fun ρ' S' => exSs P fu b ρ' S') fu ρ S
  | .raise c, ρ, S => .ex c ρ S
  | .pass, ρ, S => .next ρ S
  | .appE o e, ρ, S => Fl.of ρ (ev P o ρ S) fun ow S1 => (match ow with
    | .ref n => (match S1[n]? with
      | some (.lst _) => Fl.of ρ (ev P e ρ S1) fun w S2 => (match S2[n]?, w with
        | some (.lst xs), .d x => if Nat.blt xs.length lim then .next ρ (S2.set n (.lst (xs ++ [x]))) else .bad
        | _, _ => .bad)
      | some (.lstW _) => Fl.of ρ (ev P e ρ S1) fun w S2 => (match S2[n]? with
        | some (.lstW xs) => if Nat.blt xs.length lim then .next ρ (S2.set n (.lstW (xs ++ [w]))) else .bad
        | _ => .bad)
      | _ => .bad)
    | _ => .bad)
  | .setf c o f e, ρ, S => Fl.of ρ (ev P e ρ S) fun w S1 => Fl.of ρ (ev P o ρ S1) fun ow S2 => (match ow with
    | .ref n => (match S2[n]? with
      | some (.ins k fs) => if k = c ∧ fs.length < 900 then .next ρ (S2.set n (.ins c (fput f w fs))) else .bad
      | _ => .bad)
    | _ => .bad)
  | .try_ b c i j, ρ, S => (match exSs P fu b ρ S with
    | .ex k ρ1 S1 => if Nat.blt k 8 && Nat.blt c 8 then (if exSub k c then (if i < ρ1.length ∧ j < ρ1.length then .next ((ρ1.set j (.val (.exc k))).set i .un) S1 else .bad) else .ex k ρ1 S1) else .bad
    | f => f)
def exSs (P : Pg) (fu : Nat) : Sms → Rho → Sto → Fl
  | .nil, ρ, S => .next ρ S
  | .cons s r, ρ, S => (exS P fu s ρ S).then fun ρ' S' => exSs P fu r ρ' S'
end

/-! ### defs -/
structure Fn where
  np : Nat
  ns : Nat
  body : Sms
def startR (f : Fn) (ws : List W) : Rho := ws.map .val ++ List.replicate (f.ns - f.np) .un
def callB (P : Pg) (fu : Nat) (f : Fn) (ws : List W) (S : Sto) : Res W :=
  if ws.length = f.np then match exSs P fu f.body (startR f ws) S with
    | .next _ S' => .ok (.d .none) S'
    | .ret w S' => .ok w S'
    | .ex c _ S' => .ex c S'
    | .bad => .bad
  else .bad
/-- what a call does, at most k calls deep -/
def fnAt (gc : Nat → Option PyData) (tb : Nat → Option Fn) (fu : Nat) : Nat → Nat → List W → Sto → Res W
  | 0, _, _, _ => .bad
  | k + 1, f, ws, S => match tb f with
    | some d => callB ⟨gc, fnAt gc tb fu k⟩ fu d ws S
    | none => .bad
abbrev pgAt (gc : Nat → Option PyData) (tb : Nat → Option Fn) (fu k : Nat) : Pg := ⟨gc, fnAt gc tb fu k⟩
end FO

set_option Elab.async false
set_option linter.all false
set_option maxHeartbeats 1000000
namespace FO
open PySem L2

/-- what is known of the program's frame, and the world (the hashes of texts are its) -/
structure Kw where
  K : PySem.W.Frag
  w : World
instance : Coe Kw PySem.W.Frag := ⟨Kw.K⟩
abbrev kx (X : Cx) : Kw := ⟨X.K, X.w⟩
/-- the exceptions and the classes, by numbers -/
def exN : List Str := ["FieldError", "BadWay", "BadWords", "BadKeys", "BadNumber", "BadViews", "BadText", "NotFound"]
def clN : List Str := ["Desk", "Eye", "Game"]
def exA (K : PySem.W.Frag) (c : Nat) : Addr := He.ga K (exN.getD c ("" : Str))
def clA (K : PySem.W.Frag) (c : Nat) : Addr := He.ga K (clN.getD c ("" : Str))
/-- an object, to the letter -/
def xO (a : Addr) (o : Obj) : HO := .ext fun h => h.get? a = some o
/-- a caught exception -/
def xE (K : PySem.W.Frag) (c : Nat) (a : Addr) : HO := .ext fun h => ∃ (oe : Obj) (vs : Array Value), h.get? a = some oe ∧ Zc (.ref (exA K c)) none oe ∧ oe.data = .fields vs

/-! ### heaps within heaps -/
def Sub (F H : Hp) : Prop := ∀ a o, F a = some o → H a = some o
theorem Sub.refl (F : Hp) : Sub F F := fun _ _ h => h
theorem Sub.trans {F G H : Hp} (a : Sub F G) (b : Sub G H) : Sub F H := fun x o h => b x o (a x o h)
theorem Sub.none {F H : Hp} (s : Sub F H) {a : Addr} (h : H a = none) : F a = none := by
  cases e : F a with
  | none => rfl
  | some o => rw [s a o e] at h; cases h
theorem Sub.new {F : Hp} {a : Addr} {o : HO} (h : F a = Option.none) : Sub F (upd F a o) := fun b u e => by
  rw [upd_ne (ne_of_none e h)]; exact e
theorem rd_sub {F F' : Hp} {a : Addr} {u : HO} (s : Sub F F') (h : Rd F a u) : Rd F' a u := by
  rcases h with h | ⟨o, h⟩
  · exact .inl (s _ _ h)
  · exact .inr ⟨o, s _ _ h⟩
theorem sqL_sub {K : PySem.W.Frag} {F F' : Hp} {a : Addr} {xs : List V} (s : Sub F F') (h : SqL K F a xs) : SqL K F' a xs := by
  rcases h with h | h
  · exact .inl (rd_sub s h)
  · exact .inr h
theorem sqT_sub {K : PySem.W.Frag} {F F' : Hp} {a : Addr} {xs : List V} (s : Sub F F') (h : SqT K F a xs) : SqT K F' a xs := by
  rcases h with h | h
  · exact .inl (rd_sub s h)
  · exact .inr h
mutual
theorem dp_sub {K : PySem.W.Frag} {F F' : Hp} (s : Sub F F') : ∀ {v : V} {d : PyData}, Dp K F v d → Dp K F' v d
  | _, _, .non => .non
  | _, _, .bl b => .bl b
  | _, _, .int i => .int i
  | _, _, .str x => .str x
  | _, _, .lst h hs => .lst (sqL_sub s h) (dps_sub s hs)
  | _, _, .tup h hs => .tup (sqT_sub s h) (dps_sub s hs)
theorem dps_sub {K : PySem.W.Frag} {F F' : Hp} (s : Sub F F') : ∀ {vs : List V} {ds : List PyData}, DpAll K F vs ds → DpAll K F' vs ds
  | _, _, .nil => .nil
  | _, _, .cons h hs => .cons (dp_sub s h) (dps_sub s hs)
end
theorem dps_len {K : PySem.W.Frag} {F : Hp} : ∀ {vs : List V} {ds : List PyData}, DpAll K F vs ds → vs.length = ds.length
  | _, _, .nil => rfl
  | _, _, .cons _ hs => by rw [List.length_cons, List.length_cons, dps_len hs]
theorem dps_get {K : PySem.W.Frag} {F : Hp} : ∀ {vs : List V} {ds : List PyData} {i : Nat} {d : PyData}, DpAll K F vs ds → ds[i]? = some d → ∃ v, vs[i]? = some v ∧ Dp K F v d
  | _, _, _, _, .nil, h => by simp at h
  | _, _, 0, _, .cons h _, e => by
    simp at e; subst e
    exact ⟨_, rfl, h⟩
  | _, _, i + 1, d, .cons _ hs, e => by
    obtain ⟨v, h1, h2⟩ := dps_get (i := i) (d := d) hs (by simpa using e)
    exact ⟨v, by simpa using h1, h2⟩
theorem dps_app {K : PySem.W.Frag} {F : Hp} : ∀ {vs us : List V} {ds es : List PyData}, DpAll K F vs ds → DpAll K F us es → DpAll K F (vs ++ us) (ds ++ es)
  | _, _, _, _, .nil, h => h
  | _, _, _, _, .cons a b, h => .cons a (dps_app b h)
theorem dps_drop {K : PySem.W.Frag} {F : Hp} : ∀ {vs : List V} {ds : List PyData} (n : Nat), DpAll K F vs ds → DpAll K F (vs.drop n) (ds.drop n)
  | _, _, 0, h => h
  | _, _, _ + 1, .nil => .nil
  | _, _, n + 1, .cons _ h => dps_drop n h
theorem dps_take {K : PySem.W.Frag} {F : Hp} : ∀ {vs : List V} {ds : List PyData} (n : Nat), DpAll K F vs ds → DpAll K F (vs.take n) (ds.take n)
  | _, _, 0, _ => .nil
  | _, _, _ + 1, .nil => .nil
  | _, _, n + 1, .cons a h => .cons a (dps_take n h)
theorem dps_set {K : PySem.W.Frag} {F : Hp} {v : V} {d : PyData} (h : Dp K F v d) : ∀ {vs : List V} {ds : List PyData} (j : Nat), DpAll K F vs ds → DpAll K F (vs.set j v) (ds.set j d)
  | _, _, _, .nil => .nil
  | _, _, 0, .cons _ r => .cons h r
  | _, _, j + 1, .cons a r => .cons a (dps_set h j r)
theorem dps_one {K : PySem.W.Frag} {F : Hp} {v : V} {d : PyData} (h : Dp K F v d) : DpAll K F [v] [d] := .cons h .nil

/-! ### values -/
def RepW (K : Kw) (β : List Addr) (F : Hp) (v : V) : W → Prop
  | .d x => Dp K F v x
  | .ref n => ∃ a, β[n]? = some a ∧ v = .ref a
  | .exc c => ∃ a, F a = some (xE K c a) ∧ v = .ref a
abbrev RepWs (K : Kw) (β : List Addr) (F : Hp) : List V → List W → Prop := Paired fun v w => RepW K β F v w
structure Up (β : List Addr) (F H : Hp) (β' : List Addr) (F' H' : Hp) : Prop where
  bb : ∃ γ, β' = β ++ γ ∧ ∀ a ∈ γ, H a = none
  ff : Sub F F'
  nf : ∀ a o, H a = some o → a ∉ β → F' a = F a
  hh : ∀ a o, H a = some o → a ∉ β → H' a = some o
  tr : ∀ a o, H a = some o → ∃ o', H' a = some o'
theorem Up.refl {β : List Addr} {F H : Hp} : Up β F H β F H := ⟨⟨[], by simp, by simp⟩, Sub.refl F, fun _ _ _ _ => rfl, fun _ _ h _ => h, fun _ o h => ⟨o, h⟩⟩
theorem Up.notin {β β' : List Addr} {F H F' H' : Hp} (u : Up β F H β' F' H') {a : Addr} {o : HO} (h : H a = some o) (n : a ∉ β) : a ∉ β' := by
  obtain ⟨γ, rfl, g⟩ := u.bb
  intro hm
  rcases List.mem_append.mp hm with z | z
  · exact n z
  · rw [g a z] at h; cases h
theorem Up.trans {β β1 β2 : List Addr} {F H F1 H1 F2 H2 : Hp} (u : Up β F H β1 F1 H1) (v : Up β1 F1 H1 β2 F2 H2) : Up β F H β2 F2 H2 := by
  refine ⟨?_, u.ff.trans v.ff, fun a o h n => ?_, fun a o h n => v.hh a o (u.hh a o h n) (u.notin h n), fun a o h => ?_⟩
  · obtain ⟨γ, rfl, g⟩ := u.bb
    obtain ⟨δ, rfl, g2⟩ := v.bb
    refine ⟨γ ++ δ, by simp, fun a ha => ?_⟩
    rcases List.mem_append.mp ha with z | z
    · exact g a z
    · cases e : H a with
      | none => rfl
      | some o =>
        obtain ⟨o', q⟩ := u.tr a o e
        rw [g2 a z] at q; cases q
  · obtain ⟨o', q⟩ := u.tr a o h
    rw [v.nf a o' q (u.notin h n), u.nf a o h n]
  · obtain ⟨o', q⟩ := u.tr a o h
    exact v.tr a o' q
theorem Up.get {β β' : List Addr} {F H F' H' : Hp} (u : Up β F H β' F' H') {n : Nat} {a : Addr} (h : β[n]? = some a) : β'[n]? = some a := by
  obtain ⟨γ, rfl, _⟩ := u.bb
  rw [List.getElem?_append_left (List.getElem?_eq_some_iff.mp h).1]; exact h
theorem repW_up {K : Kw} {β β' : List Addr} {F H F' H' : Hp} (u : Up β F H β' F' H') {v : V} : ∀ {w : W}, RepW K β F v w → RepW K β' F' v w
  | .d _, h => dp_sub u.ff h
  | .ref _, ⟨a, h, e⟩ => ⟨a, u.get h, e⟩
  | .exc _, ⟨a, h, e⟩ => ⟨a, u.ff _ _ h, e⟩
theorem paired_imp {α γ : Type} {R S : α → γ → Prop} (f : ∀ a b, R a b → S a b) : ∀ {l : List α} {m : List γ}, Paired R l m → Paired S l m
  | _, _, .nil => .nil
  | _, _, .cons h t => .cons (f _ _ h) (paired_imp f t)
theorem repWs_up {K : Kw} {β β' : List Addr} {F H F' H' : Hp} (u : Up β F H β' F' H') {vs : List V} {ws : List W} (h : RepWs K β F vs ws) : RepWs K β' F' vs ws := paired_imp (fun _ _ h => repW_up u h) h
theorem paired_get {α γ : Type} {R : α → γ → Prop} : ∀ {l : List α} {m : List γ} {i : Nat} {b : γ}, Paired R l m → m[i]? = some b → ∃ a, l[i]? = some a ∧ R a b
  | _, _, _, _, .nil, h => by simp at h
  | _, _, 0, _, .cons h _, e => by simp at e; subst e; exact ⟨_, rfl, h⟩
  | _, _, i + 1, b, .cons _ hs, e => by
    obtain ⟨a, h1, h2⟩ := paired_get (i := i) (b := b) hs (by simpa using e)
    exact ⟨a, by simpa using h1, h2⟩
theorem paired_len {α γ : Type} {R : α → γ → Prop} : ∀ {l : List α} {m : List γ}, Paired R l m → l.length = m.length
  | _, _, .nil => rfl
  | _, _, .cons _ t => by rw [List.length_cons, List.length_cons, paired_len t]
theorem paired_set {α γ : Type} {R : α → γ → Prop} {a : α} {b : γ} (h : R a b) : ∀ {l : List α} {m : List γ} (j : Nat), Paired R l m → Paired R (l.set j a) (m.set j b)
  | _, _, _, .nil => .nil
  | _, _, 0, .cons _ r => .cons h r
  | _, _, j + 1, .cons x r => .cons x (paired_set h j r)

/-! ### the store -/
theorem repW_mono {K : Kw} {β β' : List Addr} {F F' : Hp} (ff : Sub F F') (bg : ∀ (n : Nat) (b : Addr), β[n]? = some b → β'[n]? = some b) {v : V} : ∀ {w : W}, RepW K β F v w → RepW K β' F' v w
  | .d _, h => dp_sub ff h
  | .ref n, ⟨a, h, e⟩ => ⟨a, bg n a h, e⟩
  | .exc _, ⟨a, h, e⟩ => ⟨a, ff _ _ h, e⟩
/-- data as a dict's key -/
def nkey : Nat → PyData → NestedKey
  | _, .int i => .num i
  | _, .str x => .text x
  | n + 1, .tuple xs => .tup (xs.map (nkey n))
  | _, _ => .none
/-- one entry of a dict -/
def EntOk (K : Kw) (β : List Addr) (F : Hp) (e : DictEntry) (p : PyData × W) : Prop :=
  e.hash = (nkey 8 p.1).hash K.w ∧ (∃ kv, RelV kv e.key ∧ Dp K F kv p.1) ∧ ∃ vv, RelV vv e.val ∧ RepW K β F vv p.2
/-- the keys of a dict: each one can be a key, all of one kind, no two alike -/
structure KeysOk (ks : List PyData) : Prop where
  ok : ∀ k ∈ ks, keyOk 8 k = true
  one : ∀ k ∈ ks, ∀ l ∈ ks, isTupD k = isTupD l
  nd : (ks.map (nkey 8)).Nodup
structure DctOk (K : Kw) (β : List Addr) (F : Hp) (a : Addr) (o : Obj) (kvs : List (PyData × W)) : Prop where
  sys : (a == sysModules) = false
  ex : o.ExactDict
  few : kvs.length ≤ 1000000
  ents : ∃ es ep, o.data = .dict es ep ∧ Paired (EntOk K β F) es.toList kvs
  keys : KeysOk (kvs.map (·.1))
def FldOk (K : Kw) (β : List Addr) (F : Hp) (g : Str × V) (f : Str × W) : Prop := g.1 = f.1 ∧ RepW K β F g.2 f.2
def CellOk (K : Kw) (β : List Addr) (F H : Hp) (a : Addr) : Cell → Prop
  | .dead => ∃ o, H a = some o
  | .lst xs => ∃ vs, H a = some (.lst vs) ∧ DpAll K F vs xs
  | .lstW ws => ∃ vs, H a = some (.lst vs) ∧ RepWs K β F vs ws
  | .tupW ws => ∃ vs, H a = some (.tup vs) ∧ RepWs K β F vs ws
  | .dct kvs => ∃ o, H a = some (xO a o) ∧ DctOk K β F a o kvs
  | .lck kvs => ∃ o, H a = some (xO a o) ∧ F a = some (xO a o) ∧ DctOk K β F a o kvs
  | .ins c fs => ∃ dx gs, H a = some (.ins (clA K c) dx gs) ∧ Paired (FldOk K β F) gs fs
def live : Cell → Bool
  | .dead => false
  | .lck _ => false
  | _ => true
structure StOk (K : Kw) (β : List Addr) (F : Hp) (S : Sto) (H : Hp) : Prop where
  len : β.length = S.length
  nd : β.Nodup
  out : ∀ (n : Nat) (a : Addr) (c : Cell), β[n]? = some a → S[n]? = some c → live c = true → F a = none
  cell : ∀ (n : Nat) (a : Addr) (c : Cell), β[n]? = some a → S[n]? = some c → CellOk K β F H a c
theorem CellOk.there {K : Kw} {β : List Addr} {F H : Hp} {a : Addr} : ∀ {c : Cell}, CellOk K β F H a c → ∃ o, H a = some o
  | .dead, h => h
  | .lst _, ⟨_, h, _⟩ => ⟨_, h⟩
  | .lstW _, ⟨_, h, _⟩ => ⟨_, h⟩
  | .tupW _, ⟨_, h, _⟩ => ⟨_, h⟩
  | .dct _, ⟨_, h, _⟩ => ⟨_, h⟩
  | .lck _, ⟨_, h, _⟩ => ⟨_, h⟩
  | .ins _ _, ⟨_, _, h, _⟩ => ⟨_, h⟩
theorem StOk.there {K : Kw} {β : List Addr} {F H : Hp} {S : Sto} (s : StOk K β F S H) {a : Addr} (h : a ∈ β) : ∃ o, H a = some o := by
  obtain ⟨n, hn, e⟩ := List.getElem_of_mem h
  have h1 : β[n]? = some a := by rw [List.getElem?_eq_getElem hn, e]
  have h2 : n < S.length := by rw [← s.len]; exact hn
  exact (s.cell n a S[n] h1 (List.getElem?_eq_getElem h2)).there
theorem EntOk.mono {K : Kw} {β β' : List Addr} {F F' : Hp} {e : DictEntry} {p : PyData × W} (ff : Sub F F') (bg : ∀ (n : Nat) (b : Addr), β[n]? = some b → β'[n]? = some b) (h : EntOk K β F e p) : EntOk K β' F' e p := by
  obtain ⟨h1, ⟨kv, h2, h3⟩, vv, h4, h5⟩ := h
  exact ⟨h1, ⟨kv, h2, dp_sub ff h3⟩, vv, h4, repW_mono ff bg h5⟩
theorem DctOk.mono {K : Kw} {β β' : List Addr} {F F' : Hp} {a : Addr} {o : Obj} {kvs : List (PyData × W)} (ff : Sub F F') (bg : ∀ (n : Nat) (b : Addr), β[n]? = some b → β'[n]? = some b) (h : DctOk K β F a o kvs) : DctOk K β' F' a o kvs := by
  obtain ⟨es, ep, e1, e2⟩ := h.ents
  exact ⟨h.sys, h.ex, h.few, ⟨es, ep, e1, paired_imp (fun _ _ q => q.mono ff bg) e2⟩, h.keys⟩
/-- a new object, or none, was laid; it is frozen -/
structure Nw (F H F' H' : Hp) : Prop where
  ff : Sub F F'
  hh : Sub H H'
  nf : ∀ a o, H a = some o → F' a = F a
  fh : Sub F' H'
theorem Nw.refl {F H : Hp} (s : Sub F H) : Nw F H F H := ⟨Sub.refl F, Sub.refl H, fun _ _ _ => rfl, s⟩
theorem Nw.trans {F H F1 H1 F2 H2 : Hp} (a : Nw F H F1 H1) (b : Nw F1 H1 F2 H2) : Nw F H F2 H2 :=
  ⟨a.ff.trans b.ff, a.hh.trans b.hh, fun x o h => (b.nf x o (a.hh x o h)).trans (a.nf x o h), b.fh⟩
theorem Nw.new {F H : Hp} {p : Addr} {o : HO} (s : Sub F H) (h : H p = none) : Nw F H (upd F p o) (upd H p o) := by
  refine ⟨Sub.new (s.none h), Sub.new h, fun a u e => upd_ne (ne_of_none e h), fun a u e => ?_⟩
  by_cases c : a = p
  · subst c; rw [upd_same] at e ⊢; exact e
  · rw [upd_ne c] at e ⊢; exact s a u e
theorem Nw.up {F H F' H' : Hp} (n : Nw F H F' H') (β : List Addr) : Up β F H β F' H' :=
  ⟨⟨[], by simp, by simp⟩, n.ff, fun a o h _ => n.nf a o h, fun a o h _ => n.hh a o h, fun a o h => ⟨o, n.hh a o h⟩⟩
theorem CellOk.mono {K : Kw} {β β' : List Addr} {F H F' H' : Hp} {a : Addr} (ff : Sub F F') (bg : ∀ (n : Nat) (b : Addr), β[n]? = some b → β'[n]? = some b) (hh : ∀ o, H a = some o → H' a = some o) : ∀ {c : Cell}, CellOk K β F H a c → CellOk K β' F' H' a c
  | .dead, ⟨o, h⟩ => ⟨o, hh o h⟩
  | .lst _, ⟨vs, h, d⟩ => ⟨vs, hh _ h, dps_sub ff d⟩
  | .lstW _, ⟨vs, h, d⟩ => ⟨vs, hh _ h, paired_imp (fun _ _ r => repW_mono ff bg r) d⟩
  | .tupW _, ⟨vs, h, d⟩ => ⟨vs, hh _ h, paired_imp (fun _ _ r => repW_mono ff bg r) d⟩
  | .dct _, ⟨o, h, d⟩ => ⟨o, hh _ h, d.mono ff bg⟩
  | .lck _, ⟨o, h, f, d⟩ => ⟨o, hh _ h, ff _ _ f, d.mono ff bg⟩
  | .ins _ _, ⟨dx, gs, h, d⟩ => ⟨dx, gs, hh _ h, paired_imp (fun _ _ r => ⟨r.1, repW_mono ff bg r.2⟩) d⟩
theorem StOk.nw {K : Kw} {β : List Addr} {F H F' H' : Hp} {S : Sto} (s : StOk K β F S H) (n : Nw F H F' H') : StOk K β F' S H' :=
  ⟨s.len, s.nd, fun i a c h1 h2 hd => by
    obtain ⟨o, h⟩ := s.there (List.mem_of_getElem? h1)
    rw [n.nf a o h]; exact s.out i a c h1 h2 hd, fun i a c h1 h2 => (s.cell i a c h1 h2).mono n.ff (fun _ _ e => e) fun o e => n.hh _ _ e⟩

/-! ### a body's state -/
structure Bs where
  β : List Addr
  F : Hp
  H : Hp
structure Rl (K : Kw) (Z : Bs) (β : List Addr) (F : Hp) (ρ : Rho) (S : Sto) (σ : St) (H : Hp) : Prop where
  len : σ.length = ρ.length
  fh : Sub F H
  up : Up Z.β Z.F Z.H β F H
  st : StOk K β F S H
  val : ∀ (i : Nat) (w : W), ρ[i]? = some (.val w) → ∃ v, σ[i]? = some (some v) ∧ RepW K β F v w
  own : ∀ (i : Nat) (xs : List PyData), ρ[i]? = some (.own xs) → ∃ a vs, σ[i]? = some (some (.ref a)) ∧ H a = some (.lst vs) ∧ F a = none ∧ a ∉ β ∧ Z.H a = none ∧ DpAll K F vs xs
  dist : ∀ (i j : Nat) (xs ys : List PyData) (a : Addr), i ≠ j → ρ[i]? = some (.own xs) → ρ[j]? = some (.own ys) → σ[i]? = some (some (.ref a)) → σ[j]? = some (some (.ref a)) → False
section
variable {K : Kw} {Z : Bs} {β β' : List Addr} {F H F' H' : Hp} {ρ : Rho} {S S' : Sto} {σ : St}
theorem Rl.next (r : Rl K Z β F ρ S σ H) (u : Up β F H β' F' H') (fh : Sub F' H') (st : StOk K β' F' S' H') : Rl K Z β' F' ρ S' σ H' := by
  refine ⟨r.len, fh, r.up.trans u, st, fun i w h => ?_, fun i xs h => ?_, r.dist⟩
  · obtain ⟨v, h1, h2⟩ := r.val i w h
    exact ⟨v, h1, repW_up u h2⟩
  · obtain ⟨a, vs, h1, h2, h3, h4, h5, h6⟩ := r.own i xs h
    exact ⟨a, vs, h1, u.hh _ _ h2 h4, by rw [u.nf _ _ h2 h4]; exact h3, u.notin h2 h4, h5, dps_sub u.ff h6⟩
theorem Rl.nw (r : Rl K Z β F ρ S σ H) (n : Nw F H F' H') : Rl K Z β F' ρ S σ H' := r.next (n.up β) n.fh (r.st.nw n)

/-! ### what is wanted of a result -/
def Pw {α : Type} (K : Kw) (Z : Bs) (ρ : Rho) (σ : St) (wx : Nat → Hp → Prop) (β : List Addr) (F H : Hp) (R : Res α) (k : α → List Addr → Hp → Sto → Hp → Prop) : Prop :=
  match R with
  | .ok a S' => ∀ β' F' H', Up β F H β' F' H' → Rl K Z β' F' ρ S' σ H' → k a β' F' S' H'
  | .ex c S' => ∀ β' F' H', Up β F H β' F' H' → Rl K Z β' F' ρ S' σ H' → wx c H'
  | .bad => False
variable {α γ : Type} {wx : Nat → Hp → Prop} {R : Res α} {k k' : α → List Addr → Hp → Sto → Hp → Prop}
theorem Pw.shift (h : Pw K Z ρ σ wx β F H R k) (u : Up β F H β' F' H') : Pw K Z ρ σ wx β' F' H' R k := by
  cases R with
  | ok a S => exact fun β2 F2 H2 u2 r => h β2 F2 H2 (u.trans u2) r
  | ex c S => exact fun β2 F2 H2 u2 r => h β2 F2 H2 (u.trans u2) r
  | bad => exact h
theorem Pw.mono (h : Pw K Z ρ σ wx β F H R k) (f : ∀ a β' F' S' H', Up β F H β' F' H' → Rl K Z β' F' ρ S' σ H' → k a β' F' S' H' → k' a β' F' S' H') : Pw K Z ρ σ wx β F H R k' := by
  cases R with
  | ok a S => exact fun β2 F2 H2 u2 r => f a β2 F2 S H2 u2 r (h β2 F2 H2 u2 r)
  | ex c S => exact h
  | bad => exact h
theorem Pw.bind {f : α → Sto → Res γ} {q : γ → List Addr → Hp → Sto → Hp → Prop} (h : Pw K Z ρ σ wx β F H (R.bind f) q) :
    Pw K Z ρ σ wx β F H R fun a β1 F1 S1 H1 => Up β F H β1 F1 H1 ∧ Rl K Z β1 F1 ρ S1 σ H1 ∧ Pw K Z ρ σ wx β1 F1 H1 (f a S1) q := by
  cases R with
  | ok a S => exact fun β2 F2 H2 u2 r => ⟨u2, r, Pw.shift (R := f a S) h u2⟩
  | ex c S => exact h
  | bad => exact h
/-- a result that is there already -/
theorem Pw.here {a : α} (h : Pw K Z ρ σ wx β F H (.ok a S) k) (r : Rl K Z β F ρ S σ H) : k a β F S H := h β F H Up.refl r
theorem Pw.nw {a : α} (h : Pw K Z ρ σ wx β F H (.ok a S) k) (r : Rl K Z β F ρ S σ H) (n : Nw F H F' H') : k a β F' S H' := h β F' H' (n.up β) (r.nw n)
end
end FO

set_option Elab.async false
set_option linter.all false
set_option maxHeartbeats 1000000
set_option maxRecDepth 10000
namespace FO
open PySem L2
theorem szl : (1000000 : Nat) ≤ sizeLine := by rw [sizeLine_eq]; omega
theorem lim_le {n : Nat} (h : Nat.ble n lim = true) : n ≤ sizeLine := Nat.le_trans (Nat.le_of_ble_eq_true h) szl
theorem lim_lt {n : Nat} (h : Nat.blt n lim = true) : n < sizeLine := Nat.lt_of_lt_of_le (Nat.le_of_ble_eq_true h) szl

/-! ### a value that is looked at: the top in H, its parts frozen -/
/-- a dict by its keys -/
structure DKy (K : PySem.W.Frag) (F : Hp) (a : Addr) (o : Obj) (kvs : List (PyData × PyData)) : Prop where
  sys : (a == sysModules) = false
  ex : o.ExactDict
  few : kvs.length ≤ 1000000
  ents : ∃ es ep, o.data = .dict es ep ∧ Paired (fun (e : DictEntry) (p : PyData × PyData) => ∃ kv, RelV kv e.key ∧ Dp K F kv p.1) es.toList kvs
  keys : KeysOk (kvs.map (·.1))
def Ra (K : PySem.W.Frag) (F H : Hp) (v : V) : PyData → Prop
  | .none => v = .non
  | .bool b => v = .bl b
  | .int i => v = .int i
  | .str x => v = .str x
  | .list ds => ∃ a vs, v = .ref a ∧ SqL K H a vs ∧ DpAll K F vs ds
  | .tuple ds => ∃ a vs, v = .ref a ∧ SqT K F a vs ∧ DpAll K F vs ds
  | .dict kvs => ∃ a o, v = .ref a ∧ H a = some (xO a o) ∧ DKy K F a o kvs
section
variable {K : PySem.W.Frag} {F H F' H' : Hp} {v : V}
theorem ra_of : ∀ {d : PyData}, Dp K F v d → Sub F H → Ra K F H v d
  | _, .non, _ => rfl
  | _, .bl _, _ => rfl
  | _, .int _, _ => rfl
  | _, .str _, _ => rfl
  | _, .lst h hs, s => ⟨_, _, rfl, sqL_sub s h, hs⟩
  | _, .tup h hs, s => ⟨_, _, rfl, h, hs⟩
theorem nd_sh {d : PyData} (h : SeqAt.shaped d = true) : ∀ kvs, d ≠ .dict kvs := fun kvs e => by
  subst e
  have := SeqAt.canLay_of_shaped h
  simp [PyData.canLay0] at this
theorem nd_sc {d : PyData} (h : isSc d = true) : ∀ kvs, d ≠ .dict kvs := fun kvs e => by
  subst e
  cases h
theorem ra_dp {d : PyData} (h : Ra K F H v d) (s : Sub F H) (nd : ∀ kvs, d ≠ .dict kvs) : Dp K H v d := by
  cases d with
  | none => cases h; exact .non
  | bool b => cases h; exact .bl b
  | int i => cases h; exact .int i
  | str x => cases h; exact .str x
  | list ds => obtain ⟨a, vs, rfl, h1, h2⟩ := h; exact .lst h1 (dps_sub s h2)
  | tuple ds => obtain ⟨a, vs, rfl, h1, h2⟩ := h; exact .tup (sqT_sub s h1) (dps_sub s h2)
  | dict kvs => exact absurd rfl (nd kvs)
theorem ra_sc {d : PyData} (h : Ra K F H v d) (s : isSc d = true) : Dp K F v d := by
  cases d with
  | none => cases h; exact .non
  | bool b => cases h; exact .bl b
  | int i => cases h; exact .int i
  | str x => cases h; exact .str x
  | list ds => cases s
  | tuple ds => cases s
  | dict kvs => cases s
theorem dp_sc {d : PyData} (h : Dp K F v d) (s : isSc d = true) : Dp K F' v d := by
  cases h with
  | non => exact .non
  | bl b => exact .bl b
  | int i => exact .int i
  | str x => exact .str x
  | lst _ _ => cases s
  | tup _ _ => cases s
end

/-- what a rule over data gives -/
def Gv (K : PySem.W.Frag) (F H : Hp) (r : PyData) (Q : VK) : Prop := ∀ v F' H', Nw F H F' H' → Dp K F' v r → Q v H'
section
variable {K : PySem.W.Frag} {F H : Hp} {Q : VK}
theorem Gv.sc {r : PyData} {v : V} (g : Gv K F H r Q) (s : Sub F H) (d : Dp K F v r) : Q v H := g v F H (Nw.refl s) d
theorem Gv.lst {ds : List PyData} {vs : List V} (g : Gv K F H (.list ds) Q) (s : Sub F H) (d : DpAll K F vs ds) (p : Addr) (h : H p = none) : Q (.ref p) (upd H p (.lst vs)) :=
  g _ (upd F p (.lst vs)) _ (Nw.new s h) (.lst (.inl (.inl upd_same)) (dps_sub (Sub.new (s.none h)) d))
theorem Gv.tup {ds : List PyData} {vs : List V} (g : Gv K F H (.tuple ds) Q) (s : Sub F H) (d : DpAll K F vs ds) (p : Addr) (h : H p = none) : Q (.ref p) (upd H p (.tup vs)) :=
  g _ (upd F p (.tup vs)) _ (Nw.new s h) (.tup (.inl (.inl upd_same)) (dps_sub (Sub.new (s.none h)) d))
end
def rD2 (K : PySem.W.Frag) (f : PyData → PyData → Option PyData) : R2 := fun x y H Q => ∃ F d e r, Sub F H ∧ Ra K F H x d ∧ Ra K F H y e ∧ f d e = some r ∧ Gv K F H r Q
section
variable {X : Cx}
theorem OpR.imp {f : Value → Value → Sem Value} {r r' : R2} (h : OpR X f r) (i : ∀ x y H Q, r' x y H Q → r x y H Q) : OpR X f r' :=
  fun pins s σ H x y v u Q I rx ry q => h pins s σ H x y v u Q I rx ry (i x y H Q q)
theorem OpR.cases {f : Value → Value → Sem Value} {r : R2} {ι : Type} {rs : ι → R2} (h : ∀ i, OpR X f (rs i)) (c : ∀ x y H Q, r x y H Q → ∃ i, rs i x y H Q) : OpR X f r :=
  fun pins s σ H x y v u Q I rx ry q => by
    obtain ⟨i, q'⟩ := c x y H Q q
    exact h i pins s σ H x y v u Q I rx ry q'
/-- list + list, whatever they stand in -/
theorem op_catS : OpR X (binaryOp .Add) (fun x y H Q => ∃ l b xs zs, x = .ref l ∧ y = .ref b ∧ SqL X.K H l xs ∧ SqL X.K H b zs ∧ xs.length + zs.length ≤ sizeLine ∧ ∀ p, H p = none → Q (.ref p) (upd H p (.lst (xs ++ zs)))) := by
  intro pins s σ H x y v u Q I rx ry h
  obtain ⟨l, b, xs, zs, rfl, rfl, hH, hB, hz, q⟩ := h
  cases rx
  cases ry
  obtain ⟨its, r, ⟨⟨cls, dd, data, sl⟩, n, e, hc, hd0, hd⟩, _⟩ := I.list hH
  obtain ⟨its2, r2, ⟨⟨cls2, dd2, data2, sl2⟩, n2, e2, hc2, hd02, hd2⟩, _⟩ := I.list hB
  simp only at hc hd hc2 hd2 hd0 hd02
  subst hc hd hc2 hd2 hd0 hd02
  have hl := r.length
  have hl2 := r2.length
  have ea : its.toArray ++ its2.toArray = (its ++ its2).toArray := by simp
  refine concat_meets ⟨_, e, rfl⟩ ⟨_, e2, rfl⟩ noFill_list_add seq_list_add PySem.F.slot_list_add PySem.F.entry_list_add (PySem.F.args_list_add_2 _ _) (PyProof.Rows.list_addW l b its.toArray its2.toArray n n2 none none sl sl2 (by rw [List.size_toArray, List.size_toArray]; omega)) ⟨e, e2, ?_⟩
  rw [ea]
  exact ⟨.ref _, _, I.lnew (t' := s.toks) (r.append r2) (by rw [List.length_append]; omega), rfl, q _ I.fresh⟩

theorem flat_arr (its : List Value) : ∀ (m : Nat) (acc : List Value), List.foldl (fun x1 x2 => x1 ++ x2) acc.toArray (List.replicate m its.toArray) = (acc ++ (List.replicate m its).flatten).toArray
  | 0, acc => by simp
  | m + 1, acc => by
    rw [List.replicate_succ, List.foldl_cons, List.replicate_succ, List.flatten_cons]
    have e : acc.toArray ++ its.toArray = (acc ++ its).toArray := by simp
    rw [e, flat_arr its m (acc ++ its), List.append_assoc]
/-- list * int, whatever it stands in -/
theorem op_repS : OpR X (binaryOp .Mult) (fun x y H Q => ∃ l k xs, x = .ref l ∧ y = .int k ∧ SqL X.K H l xs ∧ 0 ≤ k ∧ k ≤ 100000 ∧ xs.length * k.toNat ≤ sizeLine ∧ ∀ p, H p = none → Q (.ref p) (upd H p (.lst (List.replicate k.toNat xs).flatten))) := by
  intro pins s σ H x y v u Q I rx ry h
  obtain ⟨l, k, xs, rfl, rfl, hH, h1, h2, hz, q⟩ := h
  cases rx
  obtain ⟨t, rfl⟩ := ry
  obtain ⟨its, r, ⟨⟨cls, dd, data, sl⟩, n, e, hc, hd0, hd⟩, _⟩ := I.list hH
  simp only at hc hd hd0
  subst hc hd hd0
  have hl := r.length
  have hn : its.toArray.size * k.toNat ≤ sizeLine := by rw [List.size_toArray, ← hl]; exact hz
  have c1 : ¬ its.toArray.size * k.toNat > (2 ^ 63 - 1) / 8 := fun z => by
    have : sizeLine ≤ (2 ^ 63 - 1) / 8 := by decide
    omega
  have c0 : ¬ (!Builtin.List.listFitsIndex k) = true := by
    rw [fitsIndex_both (by omega) (by omega)]; exact Bool.false_ne_true
  have c2 : ¬ Builtin.List.listTooLong (its.toArray.size * k.toNat) = true := by rw [notLongL hn]; exact Bool.false_ne_true
  have ea : List.foldl (fun x1 x2 => x1 ++ x2) #[] (List.replicate (if its.toArray.isEmpty = true then 0 else k.toNat) its.toArray) = (List.replicate k.toNat its).flatten.toArray := by
    have f0 : ∀ m, List.foldl (fun x1 x2 => x1 ++ x2) #[] (List.replicate m its.toArray) = (List.replicate m its).flatten.toArray := fun m => by
      have z := flat_arr its m []
      rw [List.nil_append] at z; exact z
    rw [f0]
    cases its with
    | nil => simp
    | cons a b => rw [if_neg (by simp)]
  have ty : ∀ s' : Shared, s'.TypeIs (.int k t) "int" := fun s' => typeIs_int s' k t
  refine wpAny_binaryOp_repeat_ref (T := "list") (U := "int") (by decide) ⟨_, e, rfl⟩ ty noFill_list_mul PySem.F.fills_int_mul PySem.F.slot_int_rmul repeat_list PySem.F.slot_int_index.lookup ?_
  refine call_meets PySem.F.slot_int_rmul (ty s) PySem.F.entry_int_rmul (PySem.F.args_int_rmul_2 _ _) (lm_int_rmul_list_any k t l its.toArray n none sl) ⟨e, rfl, ⟨_, e, rfl⟩, ?_⟩
  refine call_meets PySem.F.slot_list_mul ⟨_, e, rfl⟩ PySem.F.entry_list_mul (PySem.F.args_list_mul_2 _ _) (lm_list_mul_any l its.toArray n none sl k t c0 c1 c2) ⟨e, ?_⟩
  rw [ea]
  exact ⟨.ref _, _, I.lnew (t' := s.toks) (r.rep k.toNat) (by rw [PyProof.Rows.lm_len_rep_flat, Nat.mul_comm]; exact hz), rfl, q _ I.fresh⟩
theorem dps_rep {K : PySem.W.Frag} {F : Hp} {vs : List V} {ds : List PyData} (h : DpAll K F vs ds) : ∀ m : Nat, DpAll K F (List.replicate m vs).flatten (List.replicate m ds).flatten
  | 0 => .nil
  | m + 1 => by
    rw [List.replicate_succ, List.replicate_succ, List.flatten_cons, List.flatten_cons]
    exact dps_app h (dps_rep h m)
def opO : BinO → Operator
  | .add => .Add
  | .sub => .Sub
  | .mul => .Mult
  | .fdiv => .FloorDiv
  | .mod => .Mod
  | .pow => .Pow
theorem ble_of {n : Nat} {α : Type} {a : α} {r : α} (h : (if Nat.ble n lim = true then some a else none) = some r) : n ≤ sizeLine ∧ a = r := by
  by_cases c : Nat.ble n lim = true
  · rw [if_pos c] at h
    exact ⟨lim_le c, Option.some.inj h⟩
  · rw [if_neg c] at h; cases h
theorem dec_of {P : Prop} [Decidable P] {α : Type} {a : α} {r : α} (h : (if decide P = true then some a else none) = some r) : P ∧ a = r := by
  by_cases c : P
  · rw [if_pos (decide_eq_true c)] at h
    exact ⟨c, Option.some.inj h⟩
  · rw [if_neg (by simp [c])] at h; cases h
theorem cond_of {c : Bool} {α : Type} {a r : α} (h : (if c = true then some a else none) = some r) : c = true ∧ a = r := by
  cases c with
  | true => exact ⟨rfl, Option.some.inj h⟩
  | false => cases h
theorem op_binD (o : BinO) : OpR X (binaryOp (opO o)) (rD2 X.K (binD o)) := by
  intro pins s σ H x y v u Q I rx ry h
  obtain ⟨F, d, e, r, sub, ha, hb, hf, g⟩ := h
  cases o with
  | add =>
    cases d with
    | int i => cases e with
      | int j =>
        have hf : some (PyData.int (i + j)) = some r := hf
        cases hf; cases ha; cases hb
        exact op_add pins s σ H _ _ v u Q I rx ry ⟨i, j, rfl, rfl, g.sc sub (.int _)⟩
      | _ => exact nomatch hf
    | str a => cases e with
      | str b =>
        obtain ⟨hz, rfl⟩ := ble_of hf
        cases ha; cases hb
        exact op_add_str pins s σ H _ _ v u Q I rx ry ⟨a, b, rfl, rfl, hz, g.sc sub (.str _)⟩
      | _ => exact nomatch hf
    | list a => cases e with
      | list b =>
        obtain ⟨hz, rfl⟩ := ble_of hf
        obtain ⟨l, vs, rfl, h1, h2⟩ := ha
        obtain ⟨m, us, rfl, h3, h4⟩ := hb
        exact op_catS pins s σ H _ _ v u Q I rx ry ⟨l, m, vs, us, rfl, rfl, h1, h3, by rw [dps_len h2, dps_len h4]; exact hz, g.lst sub (dps_app h2 h4)⟩
      | _ => exact nomatch hf
    | tuple a => cases e with
      | tuple b =>
        obtain ⟨hz, rfl⟩ := ble_of hf
        obtain ⟨l, vs, rfl, h1, h2⟩ := ha
        obtain ⟨m, us, rfl, h3, h4⟩ := hb
        refine op_catA pins s σ H _ _ v u Q I rx ry ⟨l, m, vs, us, rfl, rfl, sqT_sub sub h1, sqT_sub sub h3, by rw [dps_len h2, dps_len h4]; exact hz, fun e => ?_, fun _ e => ?_, fun _ _ => g.tup sub (dps_app h2 h4)⟩
        · subst e; cases h2
          exact g.sc sub (.tup h3 h4)
        · subst e; cases h4
          rw [List.append_nil] at g
          exact g.sc sub (.tup h1 h2)
      | _ => exact nomatch hf
    | _ => exact nomatch hf
  | sub =>
    cases d with
    | int i => cases e with
      | int j =>
        have hf : some (PyData.int (i - j)) = some r := hf
        cases hf; cases ha; cases hb
        exact op_sub pins s σ H _ _ v u Q I rx ry ⟨i, j, rfl, rfl, g.sc sub (.int _)⟩
      | _ => exact nomatch hf
    | _ => exact nomatch hf
  | mul =>
    cases d with
    | int i => cases e with
      | int j =>
        obtain ⟨hc, rfl⟩ := dec_of hf
        cases ha; cases hb
        exact op_mul pins s σ H _ _ v u Q I rx ry ⟨i, j, rfl, rfl, hc, g.sc sub (.int _)⟩
      | _ => exact nomatch hf
    | list a => cases e with
      | int j =>
        obtain ⟨hc, rfl⟩ := cond_of (show (if (Nat.ble a.length 100000 && (decide (0 ≤ j) && decide (j ≤ 100000)) && Nat.ble (a.length * j.toNat) lim) = true then some (PyData.list (List.replicate j.toNat a).flatten) else none) = some r from hf)
        simp only [Bool.and_eq_true, decide_eq_true_eq] at hc
        obtain ⟨l, vs, rfl, h1, h2⟩ := ha
        cases hb
        exact op_repS pins s σ H _ _ v u Q I rx ry ⟨l, j, vs, rfl, rfl, h1, hc.1.2.1, hc.1.2.2, by rw [dps_len h2]; exact lim_le hc.2, g.lst sub (dps_rep h2 _)⟩
      | _ => exact nomatch hf
    | str a => cases e with
      | int j =>
        obtain ⟨hc, rfl⟩ := cond_of (show (if ((decide (2 ≤ j) && decide (j ≤ 100000)) && (Nat.blt 0 a.length && Nat.ble (a.length * j.toNat) lim)) = true then some (PyData.str ⟨(List.replicate j.toNat a.cps).foldl (· ++ ·) #[]⟩) else none) = some r from hf)
        simp only [Bool.and_eq_true, decide_eq_true_eq] at hc
        obtain ⟨⟨c1, c2⟩, c3, c4⟩ := hc
        have c3 : 0 < a.length := Nat.le_of_ble_eq_true c3
        have c4 : a.length * j.toNat ≤ 1000000 := Nat.le_of_ble_eq_true c4
        cases ha; cases hb
        obtain ⟨t, rfl⟩ := rx
        obtain ⟨t2, rfl⟩ := ry
        have n1 : ¬ j < 1 := by omega
        have n2 : (j == 1 || a.length == 0) = false := by
          rw [beq_eq_false_iff_ne.mpr (show j ≠ 1 by omega), beq_eq_false_iff_ne.mpr (show a.length ≠ 0 by omega)]; rfl
        have tl : Builtin.Str.tooLong (a.length * j.toNat) = false := by
          unfold Builtin.Str.tooLong
          rw [sizeLine_eq]
          exact decide_eq_false (by omega)
        have hle : (a.length : Int) ≤ 1000000 := by
          have h1 : a.length * 1 ≤ a.length * j.toNat := Nat.mul_le_mul_left _ (by omega)
          omega
        refine PySem.P.mul_str (by rw [decide_eq_false (by omega), decide_eq_false (by omega)]; rfl) (fun _ _ => ?_) (fun _ _ => tl) ?_
        · have : (2 ^ 63 - 1 : Int) / j ≥ (2 ^ 63 - 1) / 100000 := by
            apply Int.le_ediv_of_mul_le (by omega)
            have h0 : (0 : Int) ≤ (2 ^ 63 - 1) / 100000 := by decide
            have h2 : ((2 ^ 63 - 1) / 100000 : Int) * j ≤ ((2 ^ 63 - 1) / 100000) * 100000 := Int.mul_le_mul_of_nonneg_left c2 h0
            have h3 : ((2 ^ 63 - 1) / 100000 : Int) * 100000 ≤ 2 ^ 63 - 1 := by decide
            omega
          have h4 : ((2 ^ 63 - 1) / 100000 : Int) = 92233720368547 := by decide
          omega
        · rw [if_neg n1, n2, if_neg Bool.false_ne_true]
          refine ⟨?_, ⟨.str _, H, I.tok _, ⟨_, rfl⟩, g.sc sub (.str _)⟩⟩
          have hsz : (⟨(List.replicate j.toNat a.cps).foldl (· ++ ·) #[]⟩ : Str).length = a.length * j.toNat := by
            have key : ∀ (k : Nat) (acc : Array Nat), ((List.replicate k a.cps).foldl (· ++ ·) acc).size = acc.size + a.cps.size * k := fun k => by
              induction k with
              | zero => intro acc; simp
              | succ k ih => intro acc; rw [List.replicate_succ, List.foldl_cons, ih, Array.size_append, Nat.mul_succ]; omega
            show ((List.replicate j.toNat a.cps).foldl (· ++ ·) #[]).size = a.cps.size * j.toNat
            rw [key]; simp
          rw [hsz]
          first | exact tl | (rw [sizeLine_eq]; omega) | (simp [Builtin.Str.tooLong, sizeLine_eq]; omega)
      | _ => exact nomatch hf
    | _ => exact nomatch hf
  | fdiv =>
    cases d with
    | int i => cases e with
      | int j =>
        obtain ⟨hc, rfl⟩ := dec_of hf
        cases ha; cases hb
        exact op_fdiv pins s σ H _ _ v u Q I rx ry ⟨i, j, rfl, rfl, hc, g.sc sub (.int _)⟩
      | _ => exact nomatch hf
    | _ => exact nomatch hf
  | mod =>
    cases d with
    | int i => cases e with
      | int j =>
        obtain ⟨hc, rfl⟩ := dec_of hf
        cases ha; cases hb
        exact op_mod pins s σ H _ _ v u Q I rx ry ⟨i, j, rfl, rfl, hc, g.sc sub (.int _)⟩
      | _ => exact nomatch hf
    | _ => exact nomatch hf
  | pow =>
    cases d with
    | int i => cases e with
      | int j =>
        obtain ⟨hc, rfl⟩ := dec_of hf
        cases ha; cases hb
        exact op_pow pins s σ H _ _ v u Q I rx ry ⟨i, j, rfl, rfl, hc, g.sc sub (.int _)⟩
      | _ => exact nomatch hf
    | _ => exact nomatch hf

def cmO : CmpO → CmpOp
  | .eq => .Eq
  | .ne => .NotEq
  | .lt => .Lt
  | .le => .LtE
  | .gt => .Gt
  | .ge => .GtE
  | .is_ => .Is
  | .isnot => .IsNot
  | .in_ => .In
  | .notin => .NotIn
theorem scP_ok {K : PySem.W.Frag} {F : Hp} {x y : V} {d e : PyData} (ha : Dp K F x d) (hb : Dp K F y e) (h : scP d e = true) : scal x y = true ∧ decide (x = y) = PyData.eqv d e := by
  cases ha <;> cases hb <;> first
    | exact ⟨rfl, dec_int⟩
    | exact ⟨rfl, dec_bl⟩
    | exact ⟨rfl, dec_str⟩
    | (refine ⟨rfl, ?_⟩; rfl)
    | (exfalso; cases h; done)
    | (simp [scP, isSc] at h)
theorem scP_sc {d e : PyData} (h : scP d e = true) : isSc d = true ∧ isSc e = true := by
  cases d <;> cases e <;> first | exact ⟨rfl, rfl⟩ | (exfalso; cases h; done) | (simp [scP, isSc] at h)
theorem eqD_of {d e : PyData} {b : Bool} (h : eqD d e = some b) : (scP d e = true ∨ (SeqAt.shaped d = true ∧ SeqAt.shaped e = true)) ∧ PyData.eqv d e = b := by
  unfold eqD at h
  by_cases c : (scP d e || (SeqAt.shaped d && SeqAt.shaped e)) = true
  · rw [if_pos c] at h
    refine ⟨?_, Option.some.inj h⟩
    rcases Bool.or_eq_true_iff.mp c with z | z
    · exact .inl z
    · exact .inr (Bool.and_eq_true_iff.mp z)
  · rw [if_neg c] at h; cases h
theorem flat_of {K : PySem.W.Frag} {F : Hp} {x : V} {d : PyData} (h : Dp K F x d) (s : isSc d = true) : flatV x = true := by
  cases h <;> first | rfl | cases s
theorem flats_of {K : PySem.W.Frag} {F : Hp} : ∀ {xs : List V} {ds : List PyData}, DpAll K F xs ds → ds.all isSc = true → xs.all flatV = true
  | _, _, .nil, _ => rfl
  | _, _, .cons h hs, s => by
    rw [List.all_cons, Bool.and_eq_true] at s ⊢
    exact ⟨flat_of h s.1, flats_of hs s.2⟩
theorem eqV_of {K : PySem.W.Frag} {F : Hp} {x y : V} {d e : PyData} (ha : Dp K F x d) (hb : Dp K F y e) (s : isSc d = true) (t : isSc e = true) : eqV x y = PyData.eqv d e := by
  cases ha <;> cases hb <;> first | (exfalso; cases s; done) | (exfalso; cases t; done) | rfl | (simp [eqV, PyData.eqv]; done)
theorem inV_of {K : PySem.W.Frag} {F : Hp} {x : V} {d : PyData} (ha : Dp K F x d) (s : isSc d = true) : ∀ {xs : List V} {ds : List PyData}, DpAll K F xs ds → ds.all isSc = true → inV x xs = ds.any fun z => PyData.eqv z d
  | _, _, .nil, _ => rfl
  | _, _, .cons h hs, t => by
    rw [List.all_cons, Bool.and_eq_true] at t
    have ih := inV_of ha s hs t.2
    unfold inV at ih ⊢
    rw [List.any_cons, List.any_cons, ih, eqV_of h ha t.1 s]
theorem and_of {a b : Bool} {α : Type} {x : α} {r : α} (h : (if (a && b) = true then some x else none) = some r) : a = true ∧ b = true ∧ x = r := by
  by_cases c : (a && b) = true
  · rw [if_pos c] at h
    exact ⟨(Bool.and_eq_true_iff.mp c).1, (Bool.and_eq_true_iff.mp c).2, Option.some.inj h⟩
  · rw [if_neg c] at h; cases h
theorem map_of {α β : Type} {o : Option α} {f : α → β} {r : β} (h : o.map f = some r) : ∃ a, o = some a ∧ f a = r := Option.map_eq_some_iff.mp h
theorem op_cmpD (hu : X.A.units + 65 < cLine) (o : CmpO) : OpR X (compareOp (cmO o)) (rD2 X.K (cmpD o)) := by
  intro pins s σ H x y v u Q I rx ry h
  obtain ⟨F, d, e, r, sub, ha, hb, hf, g⟩ := h
  have hu4 : X.A.units + 64 < cLine := by omega
  cases o with
  | eq =>
    obtain ⟨b, hq, rfl⟩ := map_of (show (eqD d e).map PyData.bool = some r from hf)
    obtain ⟨c, rfl⟩ := eqD_of hq
    rcases c with c | ⟨c1, c2⟩
    · obtain ⟨h1, h2⟩ := scP_ok (ra_dp ha sub (nd_sc (scP_sc c).1)) (ra_dp hb sub (nd_sc (scP_sc c).2)) c
      exact op_eq pins s σ H _ _ v u Q I rx ry ⟨h1, by rw [h2]; exact g.sc sub (.bl _)⟩
    · exact op_eqD hu4 pins s σ H _ _ v u Q I rx ry ⟨d, e, ra_dp ha sub (nd_sh c1), ra_dp hb sub (nd_sh c2), c1, c2, g.sc sub (.bl _)⟩
  | ne =>
    obtain ⟨b, hq, rfl⟩ := map_of (show ((eqD d e).map fun k => PyData.bool (!k)) = some r from hf)
    obtain ⟨c, rfl⟩ := eqD_of hq
    rcases c with c | ⟨c1, c2⟩
    · obtain ⟨h1, h2⟩ := scP_ok (ra_dp ha sub (nd_sc (scP_sc c).1)) (ra_dp hb sub (nd_sc (scP_sc c).2)) c
      exact op_ne pins s σ H _ _ v u Q I rx ry ⟨h1, by rw [h2]; exact g.sc sub (.bl _)⟩
    · exact op_neD hu4 pins s σ H _ _ v u Q I rx ry ⟨d, e, ra_dp ha sub (nd_sh c1), ra_dp hb sub (nd_sh c2), c1, c2, g.sc sub (.bl _)⟩
  | lt =>
    cases d with
    | int i => cases e with
      | int j =>
        have hf : some (PyData.bool (decide (i < j))) = some r := hf
        cases hf; cases ha; cases hb
        exact op_lt pins s σ H _ _ v u Q I rx ry ⟨i, j, rfl, rfl, g.sc sub (.bl _)⟩
      | _ => exact nomatch hf
    | _ => exact nomatch hf
  | le =>
    cases d with
    | int i => cases e with
      | int j =>
        have hf : some (PyData.bool (decide (i ≤ j))) = some r := hf
        cases hf; cases ha; cases hb
        exact op_le pins s σ H _ _ v u Q I rx ry ⟨i, j, rfl, rfl, g.sc sub (.bl _)⟩
      | _ => exact nomatch hf
    | _ => exact nomatch hf
  | gt =>
    cases d with
    | int i => cases e with
      | int j =>
        have hf : some (PyData.bool (decide (j < i))) = some r := hf
        cases hf; cases ha; cases hb
        exact op_gt pins s σ H _ _ v u Q I rx ry ⟨i, j, rfl, rfl, g.sc sub (.bl _)⟩
      | _ => exact nomatch hf
    | _ => exact nomatch hf
  | ge =>
    cases d with
    | int i => cases e with
      | int j =>
        have hf : some (PyData.bool (decide (j ≤ i))) = some r := hf
        cases hf; cases ha; cases hb
        exact op_ge pins s σ H _ _ v u Q I rx ry ⟨i, j, rfl, rfl, g.sc sub (.bl _)⟩
      | _ => exact nomatch hf
    | _ => exact nomatch hf
  | is_ =>
    cases e with
    | none =>
      have hf : some (PyData.bool (isNon d)) = some r := by cases d <;> exact hf
      cases hf
      have e1 : decide (x = V.non) = isNon d := by
        cases d with
        | none => cases ha; rfl
        | bool b => cases ha; rfl
        | int i => cases ha; rfl
        | str z => cases ha; rfl
        | list ds => obtain ⟨a, vs, rfl, _⟩ := ha; rfl
        | tuple ds => obtain ⟨a, vs, rfl, _⟩ := ha; rfl
        | dict kvs => obtain ⟨a, o, rfl, _⟩ := ha; rfl
      cases hb
      exact op_isN pins s σ H _ _ v u Q I rx ry ⟨rfl, by rw [e1]; exact g.sc sub (.bl _)⟩
    | bool b => cases d with
      | bool a =>
        have hf : some (PyData.bool (decide (a = b))) = some r := hf
        cases hf; cases ha; cases hb
        exact op_isBl pins s σ H _ _ v u Q I rx ry ⟨a, b, rfl, rfl, g.sc sub (.bl _)⟩
      | _ => exact nomatch hf
    | _ => cases d <;> exact nomatch hf
  | isnot =>
    cases e with
    | none =>
      have hf : some (PyData.bool (!isNon d)) = some r := by cases d <;> exact hf
      cases hf
      have e1 : decide (x = V.non) = isNon d := by
        cases d with
        | none => cases ha; rfl
        | bool b => cases ha; rfl
        | int i => cases ha; rfl
        | str z => cases ha; rfl
        | list ds => obtain ⟨a, vs, rfl, _⟩ := ha; rfl
        | tuple ds => obtain ⟨a, vs, rfl, _⟩ := ha; rfl
        | dict kvs => obtain ⟨a, o, rfl, _⟩ := ha; rfl
      cases hb
      exact op_notN pins s σ H _ _ v u Q I rx ry ⟨rfl, by rw [e1]; exact g.sc sub (.bl _)⟩
    | bool b => cases d with
      | bool a =>
        have hf : some (PyData.bool (!decide (a = b))) = some r := hf
        cases hf; cases ha; cases hb
        exact op_notBl pins s σ H _ _ v u Q I rx ry ⟨a, b, rfl, rfl, g.sc sub (.bl _)⟩
      | _ => exact nomatch hf
    | _ => cases d <;> exact nomatch hf
  | in_ =>
    cases e with
    | str z => cases d with
      | str w =>
        have hf : some (PyData.bool (!(Builtin.Str.occurrences z w 0 z.length 1).isEmpty)) = some r := hf
        cases hf; cases ha; cases hb
        exact op_in_str pins s σ H _ _ v u Q I rx ry ⟨w, z, rfl, rfl, g.sc sub (.bl _)⟩
      | _ => exact nomatch hf
    | list ys =>
      obtain ⟨c1, c2, rfl⟩ := and_of (show (if (SeqAt.shaped d && SeqAt.shaped (.list ys)) = true then some (PyData.bool (ys.any fun z => PyData.eqv z d)) else none) = some r by cases d <;> exact hf)
      exact op_inD hu pins s σ H _ _ v u Q I rx ry ⟨d, ys, ra_dp ha sub (nd_sh c1), ra_dp hb sub (nd_sh c2), c1, c2, g.sc sub (.bl _)⟩
    | tuple ys =>
      obtain ⟨c1, c2, rfl⟩ := and_of (show (if (isSc d && ys.all isSc) = true then some (PyData.bool (ys.any fun z => PyData.eqv z d)) else none) = some r by cases d <;> exact hf)
      obtain ⟨a, vs, rfl, h1, h2⟩ := hb
      have hx := ra_sc ha c1
      exact op_in_seq pins s σ H _ _ v u Q I rx ry ⟨a, vs, rfl, .inr (sqT_sub sub h1), flat_of hx c1, flats_of h2 c2, by
        rw [if_neg Bool.false_ne_true, inV_of hx c1 h2 c2]; exact g.sc sub (.bl _)⟩
    | _ => cases d <;> exact nomatch hf
  | notin =>
    cases e with
    | str z => cases d with
      | str w =>
        have hf : some (PyData.bool (!(!(Builtin.Str.occurrences z w 0 z.length 1).isEmpty))) = some r := hf
        cases hf; cases ha; cases hb
        exact op_notin_str pins s σ H _ _ v u Q I rx ry ⟨w, z, rfl, rfl, g.sc sub (.bl _)⟩
      | _ => exact nomatch hf
    | list ys =>
      obtain ⟨c1, c2, rfl⟩ := and_of (show (if (SeqAt.shaped d && SeqAt.shaped (.list ys)) = true then some (PyData.bool (!ys.any fun z => PyData.eqv z d)) else none) = some r by cases d <;> exact hf)
      exact op_notInD hu pins s σ H _ _ v u Q I rx ry ⟨d, ys, ra_dp ha sub (nd_sh c1), ra_dp hb sub (nd_sh c2), c1, c2, g.sc sub (.bl _)⟩
    | tuple ys =>
      obtain ⟨c1, c2, rfl⟩ := and_of (show (if (isSc d && ys.all isSc) = true then some (PyData.bool (!ys.any fun z => PyData.eqv z d)) else none) = some r by cases d <;> exact hf)
      obtain ⟨a, vs, rfl, h1, h2⟩ := hb
      have hx := ra_sc ha c1
      exact op_notIn_seq pins s σ H _ _ v u Q I rx ry ⟨a, vs, rfl, .inr (sqT_sub sub h1), flat_of hx c1, flats_of h2 c2, by
        rw [if_pos rfl, inV_of hx c1 h2 c2]; exact g.sc sub (.bl _)⟩
    | _ => cases d <;> exact nomatch hf
end
end FO

set_option Elab.async false
set_option linter.all false
set_option maxHeartbeats 1000000
set_option maxRecDepth 10000
namespace FO
open PySem L2
section
variable {X : Cx}
/-! ### a[i] -/
theorem atI_dp {K : PySem.W.Frag} {F : Hp} {vs : List V} {ds : List PyData} {i : Int} {d : PyData} (h : DpAll K F vs ds) (e : atI ds i = some d) : ∃ v, atI vs i = some v ∧ Dp K F v d := by
  unfold atI at e ⊢
  rw [dps_len h]
  cases q : ixN ds.length i with
  | none => rw [q] at e; cases e
  | some j =>
    rw [q] at e
    exact dps_get h e
theorem ix_D : IxR X (rD2 X.K ixD) := by
  intro value slice pins s σ H x y v u Q I rx ry h hs
  obtain ⟨F, d, e, r, sub, ha, hb, hf, g⟩ := h
  cases d with
  | list xs => cases e with
    | int i =>
      obtain ⟨a, vs, rfl, h1, h2⟩ := ha
      cases hb
      obtain ⟨z, e1, e2⟩ := atI_dp h2 (show atI xs i = some r from hf)
      exact ix_list value slice pins s σ H _ _ v u Q I rx ry ⟨a, vs, i, z, rfl, rfl, h1, e1, g.sc sub e2⟩ hs
    | _ => exact nomatch hf
  | tuple xs => cases e with
    | int i =>
      obtain ⟨a, vs, rfl, h1, h2⟩ := ha
      cases hb
      obtain ⟨z, e1, e2⟩ := atI_dp h2 (show atI xs i = some r from hf)
      exact ix_tup value slice pins s σ H _ _ v u Q I rx ry ⟨a, vs, i, z, rfl, rfl, sqT_sub sub h1, e1, g.sc sub e2⟩ hs
    | _ => exact nomatch hf
  | str z => cases e with
    | int i =>
      cases ha; cases hb
      have hf' : (if Nat.ble z.length lim = true then (atI z.cps.toList i).map (fun c => PyData.str ⟨#[c]⟩) else none) = some r := hf
      by_cases c : Nat.ble z.length lim = true
      · rw [if_pos c] at hf'
        obtain ⟨k, e1, rfl⟩ := map_of hf'
        exact ix_str value slice pins s σ H _ _ v u Q I rx ry ⟨z, i, k, rfl, rfl, lim_le c, e1, g.sc sub (.str _)⟩ hs
      · rw [if_neg c] at hf'; cases hf'
    | _ => exact nomatch hf
  | _ => exact nomatch hf
/-! ### slices -/
def rSlD (K : PySem.W.Frag) : V → Option Int → Option Int → Hp → VK → Prop := fun x lo hi H Q => ∃ F d r, Sub F H ∧ Ra K F H x d ∧ slD d lo hi = some r ∧ Gv K F H r Q
theorem cut_dp {K : PySem.W.Frag} {F : Hp} {vs : List V} {ds : List PyData} (h : DpAll K F vs ds) (lo hi : Option Int) : DpAll K F (cutV vs lo hi) (cutD ds lo hi) := by
  unfold cutV cutD
  rw [dps_len h]
  exact dps_take _ (dps_drop _ h)
theorem sl_D : SlR X (rSlD X.K) := by
  intro pins s σ H x v vl vu lo hi sl Q I rx hs pl pu h
  obtain ⟨F, d, r, sub, ha, hf, g⟩ := h
  cases d with
  | list xs =>
    have hf : some (PyData.list (cutD xs lo hi)) = some r := hf
    cases hf
    obtain ⟨a, vs, rfl, h1, h2⟩ := ha
    exact sl_list pins s σ H _ v vl vu lo hi sl Q I rx hs pl pu ⟨a, vs, rfl, h1, g.lst sub (cut_dp h2 lo hi)⟩
  | tuple xs =>
    have hf : some (PyData.tuple (cutD xs lo hi)) = some r := hf
    cases hf
    obtain ⟨a, vs, rfl, h1, h2⟩ := ha
    refine sl_tupA pins s σ H _ v vl vu lo hi sl Q I rx hs pl pu ⟨a, vs, rfl, sqT_sub sub h1, fun e => ?_, fun _ => g.tup sub (cut_dp h2 lo hi)⟩
    have e2 : cutD xs lo hi = xs := by
      unfold cutD
      rw [← dps_len h2, e.1, e.2, List.drop_zero, Nat.sub_zero, dps_len h2, List.take_length]
    rw [e2] at g
    exact g.sc sub (.tup h1 h2)
  | str z =>
    obtain ⟨hz, rfl⟩ := ble_of (show (if Nat.ble z.length lim = true then some (PyData.str (cutS z lo hi)) else none) = some r from hf)
    cases ha
    exact sl_str pins s σ H _ v vl vu lo hi sl Q I rx hs pl pu ⟨z, rfl, hz, g.sc sub (.str _)⟩
  | _ => exact nomatch hf
/-! ### calls -/
def rD1 (K : PySem.W.Frag) (f : PyData → Option PyData) : List V → Hp → VK → Prop := fun vs H Q => ∃ F x d r, vs = [x] ∧ Sub F H ∧ Ra K F H x d ∧ f d = some r ∧ Gv K F H r Q
theorem ints_dp {K : PySem.W.Frag} {F : Hp} : ∀ {vs : List V} {ds : List PyData} {ns : List Int}, DpAll K F vs ds → ds.mapM intOf = some ns → vs = ns.map V.int
  | _, _, ns, .nil, e => by simp at e; subst e; rfl
  | _, _, ns, .cons (d := d) h hs, e => by
    cases d with
    | int i =>
      simp only [List.mapM_cons, intOf, Option.pure_def, Option.bind_eq_bind, Option.bind_some] at e
      obtain ⟨ms, e1, e2⟩ := Option.bind_eq_some_iff.mp e
      cases e2
      cases h
      rw [List.map_cons, ints_dp hs e1]
    | _ => simp [List.mapM_cons, intOf] at e
theorem bools_dp {K : PySem.W.Frag} {F : Hp} : ∀ {vs : List V} {ds : List PyData} {ns : List Bool}, DpAll K F vs ds → ds.mapM boolOf = some ns → vs = ns.map V.bl
  | _, _, ns, .nil, e => by simp at e; subst e; rfl
  | _, _, ns, .cons (d := d) h hs, e => by
    cases d with
    | bool i =>
      simp only [List.mapM_cons, boolOf, Option.pure_def, Option.bind_eq_bind, Option.bind_some] at e
      obtain ⟨ms, e1, e2⟩ := Option.bind_eq_some_iff.mp e
      cases e2
      cases h
      rw [List.map_cons, bools_dp hs e1]
    | _ => simp [List.mapM_cons, boolOf] at e
theorem strs_dp {K : PySem.W.Frag} {F : Hp} : ∀ {vs : List V} {ds : List PyData} {ns : List Str}, DpAll K F vs ds → ds.mapM strOf = some ns → vs = ns.map V.str
  | _, _, ns, .nil, e => by simp at e; subst e; rfl
  | _, _, ns, .cons (d := d) h hs, e => by
    cases d with
    | str i =>
      simp only [List.mapM_cons, strOf, Option.pure_def, Option.bind_eq_bind, Option.bind_some] at e
      obtain ⟨ms, e1, e2⟩ := Option.bind_eq_some_iff.mp e
      cases e2
      cases h
      rw [List.map_cons, strs_dp hs e1]
    | _ => simp [List.mapM_cons, strOf] at e
theorem dps_strs {K : PySem.W.Frag} {F : Hp} : ∀ ss : List Str, DpAll K F (ss.map V.str) (ss.map PyData.str)
  | [] => .nil
  | s :: r => .cons (.str s) (dps_strs r)
theorem foldl_min : ∀ (l : List Int) (x : Int), (l.foldl min x = x ∨ l.foldl min x ∈ l) ∧ l.foldl min x ≤ x ∧ ∀ y ∈ l, l.foldl min x ≤ y
  | [], x => ⟨.inl rfl, Int.le_refl x, fun _ h => nomatch h⟩
  | z :: r, x => by
    obtain ⟨h1, h2, h3⟩ := foldl_min r (min x z)
    rw [List.foldl_cons]
    refine ⟨?_, by omega, fun y hy => ?_⟩
    · rcases h1 with h1 | h1
      · rw [h1]
        by_cases c : x ≤ z
        · left; omega
        · right; rw [List.mem_cons]; left; omega
      · exact .inr (List.mem_cons_of_mem _ h1)
    · rcases List.mem_cons.mp hy with rfl | hy
      · omega
      · exact h3 y hy
theorem foldl_max : ∀ (l : List Int) (x : Int), (l.foldl max x = x ∨ l.foldl max x ∈ l) ∧ x ≤ l.foldl max x ∧ ∀ y ∈ l, y ≤ l.foldl max x
  | [], x => ⟨.inl rfl, Int.le_refl x, fun _ h => nomatch h⟩
  | z :: r, x => by
    obtain ⟨h1, h2, h3⟩ := foldl_max r (max x z)
    rw [List.foldl_cons]
    refine ⟨?_, by omega, fun y hy => ?_⟩
    · rcases h1 with h1 | h1
      · rw [h1]
        by_cases c : z ≤ x
        · left; omega
        · right; rw [List.mem_cons]; left; omega
      · exact .inr (List.mem_cons_of_mem _ h1)
    · rcases List.mem_cons.mp hy with rfl | hy
      · omega
      · exact h3 y hy
theorem minI_mem {ns : List Int} {m : Int} (h : minI ns = some m) : m ∈ ns ∧ ∀ y ∈ ns, m ≤ y := by
  cases ns with
  | nil => cases h
  | cons x r =>
    have h : some (r.foldl min x) = some m := h
    cases h
    obtain ⟨h1, h2, h3⟩ := foldl_min r x
    refine ⟨?_, fun y hy => ?_⟩
    · rcases h1 with h1 | h1
      · rw [h1]; exact List.mem_cons_self
      · exact List.mem_cons_of_mem _ h1
    · rcases List.mem_cons.mp hy with rfl | hy
      · exact h2
      · exact h3 y hy
theorem maxI_mem {ns : List Int} {m : Int} (h : maxI ns = some m) : m ∈ ns ∧ ∀ y ∈ ns, y ≤ m := by
  cases ns with
  | nil => cases h
  | cons x r =>
    have h : some (r.foldl max x) = some m := h
    cases h
    obtain ⟨h1, h2, h3⟩ := foldl_max r x
    refine ⟨?_, fun y hy => ?_⟩
    · rcases h1 with h1 | h1
      · rw [h1]; exact List.mem_cons_self
      · exact List.mem_cons_of_mem _ h1
    · rcases List.mem_cons.mp hy with rfl | hy
      · exact h2
      · exact h3 y hy
theorem len_raw {prog : Program} {w : World} {A : Around} {E : Value → Shared → Prop} {s : Shared} {d : Addr} {es : Array DictEntry} {ep : Nat} {Q : Value → Shared → Prop} (hd : (d == sysModules) = false) (hm : s.heap.DictRaw d es ep) (hfit : (es.size : Int) < 2 ^ 63)
    (h : Q (.int es.size (s.toks + 1)) { s with toks := s.toks + 1 + 1 }) : wpAny (model prog w) A (call (.builtin "len") [.ref d]) Q E s := by
  refine Calls.call_function_entry PySem.kind_len PySem.plain_len PySem.entry_len (PySem.args_len1 _) ?_
  unfold Builtin.«len»
  refine wpAny_bind (m := oneArg "len" _) (wpAny_pure ?_)
  refine wpAny_bind (m := callSpecial? (.ref d) (Str.ofString "__len__")) (wpAny_callSpecial?_slot (name := Str.ofString "__len__") hm.typeIs PySem.F.slot_dict_len
    (call_meetsIn PySem.F.slot_dict_len hm.typeIs PySem.F.entry_dict_len (PySem.F.args_dict_len_1 _) (meets_dict_len_raw d hd) ⟨es, ep, hm, ?_⟩))
  show wpAny _ _ _ _ _ { s with toks := s.toks + 1 }
  refine wpAny_bind (wpAny_holding (wpAny_pure ?_))
  refine wpAny_bind (wpAny_letGo ?_)
  show wpAny _ _ (if ((es.size : Nat) : Int) < 0 then _ else _) _ _ _
  rw [if_neg (by omega)]
  show wpAny _ _ (if ((es.size : Nat) : Int) ≥ 2 ^ 63 then _ else _) _ _ _
  rw [if_neg (by omega)]
  exact wpAny_bind (wpAny_mkInt (wpAny_pure ⟨_, rfl, h⟩))
theorem call_lenD' : CallR X (.builtin "len") (rD1 X.K (biD .len)) := by
  intro pins s σ H xs us Q I rs h
  obtain ⟨F, x, d, r, rfl, sub, ha, hf, g⟩ := h
  cases d with
  | list ds =>
    have hf : some (PyData.int ds.length) = some r := hf
    cases hf
    obtain ⟨a, vs, rfl, h1, h2⟩ := ha
    exact call_len pins s σ H _ us Q I rs ⟨_, vs.length, rfl, .inl ⟨vs, h1, rfl⟩, by rw [dps_len h2]; exact g.sc sub (.int _)⟩
  | tuple ds =>
    have hf : some (PyData.int ds.length) = some r := hf
    cases hf
    obtain ⟨a, vs, rfl, h1, h2⟩ := ha
    exact call_len pins s σ H _ us Q I rs ⟨_, vs.length, rfl, .inr ⟨vs, sqT_sub sub h1, rfl⟩, by rw [dps_len h2]; exact g.sc sub (.int _)⟩
  | str z =>
    obtain ⟨hz, rfl⟩ := ble_of (show (if Nat.ble z.length lim = true then some (PyData.int z.length) else none) = some r from hf)
    cases ha
    exact call_len pins s σ H _ us Q I rs ⟨_, z.length, rfl, ⟨hz, rfl⟩, g.sc sub (.int _)⟩
  | dict kvs =>
    have hf : some (PyData.int kvs.length) = some r := hf
    cases hf
    obtain ⟨a, o, rfl, h1, dk⟩ := ha
    obtain ⟨es, ep, hd, pr⟩ := dk.ents
    have hl : es.size = kvs.length := by have := pr.length; rwa [Array.length_toList] at this
    have hfew := dk.few
    rw [Vals.ref1 rs]
    refine len_raw dk.sys ⟨o, (I.hok a _ h1).1, dk.ex, hd⟩ (by omega) ?_
    rw [hl]
    exact ⟨.int _, H, I.tok _, ⟨_, rfl⟩, g.sc sub (.int _)⟩
  | _ => exact nomatch hf
theorem call_tupleD : CallR X (.type "tuple") (rD1 X.K (biD .tuple)) := by
  intro pins s σ H xs us Q I rs h
  obtain ⟨F, x, d, r, rfl, sub, ha, hf, g⟩ := h
  cases d with
  | list ds =>
    have hf : some (PyData.tuple ds) = some r := hf
    cases hf
    obtain ⟨a, vs, rfl, h1, h2⟩ := ha
    exact call_tuple_of pins s σ H _ us Q I rs ⟨a, vs, rfl, .inl ⟨h1, g.tup sub h2⟩⟩
  | tuple ds =>
    have hf : some (PyData.tuple ds) = some r := hf
    cases hf
    obtain ⟨a, vs, rfl, h1, h2⟩ := ha
    exact call_tuple_of pins s σ H _ us Q I rs ⟨a, vs, rfl, .inr ⟨sqT_sub sub h1, g.sc sub (.tup h1 h2)⟩⟩
  | _ => exact nomatch hf
theorem call_strD : CallR X (.type "str") (rD1 X.K (biD .str)) := by
  intro pins s σ H xs us Q I rs h
  obtain ⟨F, x, d, r, rfl, sub, ha, hf, g⟩ := h
  cases d with
  | str a =>
    have hf : some (PyData.str a) = some r := hf
    cases hf; cases ha
    exact SkE.call_str_str pins s σ H _ us Q I rs ⟨a, rfl, g.sc sub (.str _)⟩
  | int i =>
    have hf : (if Nat.blt i.natAbs.log2 1920 = true then some (PyData.str (toString i)) else none) = some r := hf
    by_cases c : Nat.blt i.natAbs.log2 1920 = true
    · rw [if_pos c] at hf
      cases hf; cases ha
      exact call_str_int pins s σ H _ us Q I rs ⟨i, rfl, Nat.le_of_ble_eq_true c, g.sc sub (.str _)⟩
    · rw [if_neg c] at hf; cases hf
  | _ => exact nomatch hf
theorem call_intD : CallR X (.type "int") (rD1 X.K (biD .int)) := by
  intro pins s σ H xs us Q I rs h
  obtain ⟨F, x, d, r, rfl, sub, ha, hf, g⟩ := h
  cases d with
  | str a =>
    have hf : (if Nat.ble a.length 640 = true then (PySem.intText? a).map PyData.int else none) = some r := hf
    by_cases c : Nat.ble a.length 640 = true
    · rw [if_pos c] at hf
      obtain ⟨i, e, rfl⟩ := Option.map_eq_some_iff.mp hf
      cases ha
      exact call_int_str pins s σ H _ us Q I rs ⟨a, i, rfl, e, Nat.le_of_ble_eq_true c, g.sc sub (.int _)⟩
    · rw [if_neg c] at hf; cases hf
  | _ => exact nomatch hf
theorem dps_items {K : PySem.W.Frag} {F : Hp} (z : Str) : DpAll K F (z.cps.toList.map fun c => V.str ⟨#[c]⟩) (strItems z) := by
  unfold strItems
  induction z.cps.toList with
  | nil => exact .nil
  | cons c r ih => exact .cons (.str _) ih
theorem call_sumD (hc : X.calm = true) : CallR X (.builtin "sum") (rD1 X.K (biD .sum)) := by
  intro pins s σ H xs us Q I rs h
  obtain ⟨F, x, d, r, rfl, sub, ha, hf, g⟩ := h
  cases d with
  | list ds =>
    obtain ⟨ns, e1, rfl⟩ := map_of (show (ds.mapM intOf).map (fun ns => PyData.int ns.sum) = some r from hf)
    obtain ⟨a, vs, rfl, h1, h2⟩ := ha
    rw [ints_dp h2 e1] at h1
    exact cr_sum hc pins s σ H _ us Q I rs ⟨a, ns, rfl, h1, g.sc sub (.int _)⟩
  | _ => exact nomatch hf
theorem call_minD (hc : X.calm = true) : CallR X (.builtin "min") (rD1 X.K (biD .min)) := by
  intro pins s σ H xs us Q I rs h
  obtain ⟨F, x, d, r, rfl, sub, ha, hf, g⟩ := h
  cases d with
  | list ds =>
    obtain ⟨m, e0, rfl⟩ := map_of (show ((ds.mapM intOf).bind minI).map PyData.int = some r from hf)
    obtain ⟨ns, e1, e2⟩ := Option.bind_eq_some_iff.mp e0
    obtain ⟨a, vs, rfl, h1, h2⟩ := ha
    rw [ints_dp h2 e1] at h1
    obtain ⟨k1, k2⟩ := minI_mem e2
    exact cr_min hc pins s σ H _ us Q I rs ⟨a, ns, rfl, h1, List.length_pos_of_mem k1, fun m' p1 p2 => by
      have e : m' = m := Int.le_antisymm (p2 m k1) (k2 m' p1)
      rw [e]; exact g.sc sub (.int _)⟩
  | _ => exact nomatch hf
theorem call_maxD (hc : X.calm = true) : CallR X (.builtin "max") (rD1 X.K (biD .max)) := by
  intro pins s σ H xs us Q I rs h
  obtain ⟨F, x, d, r, rfl, sub, ha, hf, g⟩ := h
  cases d with
  | list ds =>
    obtain ⟨m, e0, rfl⟩ := map_of (show ((ds.mapM intOf).bind maxI).map PyData.int = some r from hf)
    obtain ⟨ns, e1, e2⟩ := Option.bind_eq_some_iff.mp e0
    obtain ⟨a, vs, rfl, h1, h2⟩ := ha
    rw [ints_dp h2 e1] at h1
    obtain ⟨k1, k2⟩ := maxI_mem e2
    exact cr_max hc pins s σ H _ us Q I rs ⟨a, ns, rfl, h1, List.length_pos_of_mem k1, fun m' p1 p2 => by
      have e : m' = m := Int.le_antisymm (k2 m' p1) (p2 m k1)
      rw [e]; exact g.sc sub (.int _)⟩
  | _ => exact nomatch hf
theorem call_allD (hc : X.calm = true) : CallR X (.builtin "all") (rD1 X.K (biD .all)) := by
  intro pins s σ H xs us Q I rs h
  obtain ⟨F, x, d, r, rfl, sub, ha, hf, g⟩ := h
  cases d with
  | list ds =>
    obtain ⟨ns, e1, rfl⟩ := map_of (show (ds.mapM boolOf).map (fun ns => PyData.bool (ns.all id)) = some r from hf)
    obtain ⟨a, vs, rfl, h1, h2⟩ := ha
    rw [bools_dp h2 e1] at h1
    exact cr_all hc pins s σ H _ us Q I rs ⟨a, ns, rfl, h1, g.sc sub (.bl _)⟩
  | _ => exact nomatch hf
theorem call_anyD (hc : X.calm = true) : CallR X (.builtin "any") (rD1 X.K (biD .any)) := by
  intro pins s σ H xs us Q I rs h
  obtain ⟨F, x, d, r, rfl, sub, ha, hf, g⟩ := h
  cases d with
  | list ds =>
    obtain ⟨ns, e1, rfl⟩ := map_of (show (ds.mapM boolOf).map (fun ns => PyData.bool (ns.any id)) = some r from hf)
    obtain ⟨a, vs, rfl, h1, h2⟩ := ha
    rw [bools_dp h2 e1] at h1
    exact cr_any hc pins s σ H _ us Q I rs ⟨a, ns, rfl, h1, g.sc sub (.bl _)⟩
  | _ => exact nomatch hf
/-! ### methods -/
def rM1 (K : PySem.W.Frag) (f : PyData → PyData → Option PyData) : V → List V → Hp → VK → Prop := fun x vs H Q => ∃ F y d e r, vs = [y] ∧ Sub F H ∧ Ra K F H x d ∧ Ra K F H y e ∧ f d e = some r ∧ Gv K F H r Q
theorem idxD_of {a : PyData} : ∀ {ds : List PyData} {n : Nat}, idxD a ds = some n → ∃ z, ds[n]? = some z ∧ PyData.eqv z a = true ∧ ∀ (m : Nat) (z' : PyData), m < n → ds[m]? = some z' → PyData.eqv z' a = false
  | [], _, h => by cases h
  | x :: r, n, h => by
    unfold idxD at h
    by_cases c : PyData.eqv x a = true
    · rw [if_pos c] at h
      cases h
      exact ⟨x, rfl, c, fun m _ hm => absurd hm (Nat.not_lt_zero m)⟩
    · rw [if_neg c] at h
      obtain ⟨k, e1, rfl⟩ := map_of h
      obtain ⟨z, h1, h2, h3⟩ := idxD_of e1
      refine ⟨z, by simpa using h1, h2, fun m z' hm hz => ?_⟩
      cases m with
      | zero =>
        simp at hz; subst hz
        simpa using c
      | succ m => exact h3 m z' (by omega) (by simpa using hz)
theorem mt_indexDD (hu : X.A.units + 65 < cLine) : MtR X "list.index" (rM1 X.K (bmD .index)) := by
  intro pins s σ H x xs v us Q I rx rxs h
  obtain ⟨F, y, d, e, r, rfl, sub, ha, hb, hf, g⟩ := h
  cases d with
  | list ds =>
    have hf' : (if (SeqAt.shaped e && SeqAt.shaped (.list ds)) = true then (idxD e ds).map (fun (n : Nat) => PyData.int n) else none) = some r := hf
    by_cases c : (SeqAt.shaped e && SeqAt.shaped (.list ds)) = true
    · rw [if_pos c] at hf'
      obtain ⟨n, e1, rfl⟩ := map_of hf'
      obtain ⟨z, h1, h2, h3⟩ := idxD_of e1
      obtain ⟨c1, c2⟩ := Bool.and_eq_true_iff.mp c
      have hd := ra_dp ha sub (nd_sh c2)
      obtain ⟨a, vs, rfl, _, _⟩ := ha
      exact mt_indexD hu pins s σ H _ _ v us Q I rx rxs ⟨a, y, e, ds, n, z, rfl, rfl, hd, ra_dp hb sub (nd_sh c1), c2, c1, h1, h2, h3, g.sc sub (.int _)⟩
    · rw [if_neg c] at hf'; cases hf'
  | _ => exact nomatch hf
theorem mt_startsD : MtR X "str.startswith" (rM1 X.K (bmD .startswith)) := by
  intro pins s σ H x xs v us Q I rx rxs h
  obtain ⟨F, y, d, e, r, rfl, sub, ha, hb, hf, g⟩ := h
  cases d with
  | str a => cases e with
    | str b =>
      have hf : some (PyData.bool (Txt.startswith a b)) = some r := hf
      cases hf; cases ha; cases hb
      exact mt_startswith pins s σ H _ _ v us Q I rx rxs ⟨a, b, rfl, rfl, g.sc sub (.bl _)⟩
    | _ => exact nomatch hf
  | _ => exact nomatch hf
/-! ### isinstance -/
def tyN : Ty → String
  | .int => "int"
  | .str => "str"
  | .bool => "bool"
  | .list => "list"
  | .tuple => "tuple"
theorem tyX_list {K : PySem.W.Frag} {H : Hp} {a : Addr} {vs : List V} (h : SqL K H a vs) : TyX K H (.ref a) (.type "list") := by
  rcases h with (h | ⟨o, h⟩) | ⟨o, its, n, h, c, _⟩
  · exact .base (.lst h)
  · exact .base (.frz h)
  · exact .kList h c
theorem tyX_tup {K : PySem.W.Frag} {H : Hp} {a : Addr} {vs : List V} (h : SqT K H a vs) : TyX K H (.ref a) (.type "tuple") := by
  rcases h with (h | ⟨o, h⟩) | ⟨o, its, n, h, c, _⟩
  · exact .base (.tup h)
  · exact .fTuple h
  · exact .kTuple h c
def dTy : PyData → String
  | .none => "NoneType"
  | .bool _ => "bool"
  | .int _ => "int"
  | .str _ => "str"
  | .list _ => "list"
  | .tuple _ => "tuple"
  | .dict _ => "dict"
theorem tyX_of {K : PySem.W.Frag} {F H : Hp} {x : V} {d : PyData} (sub : Sub F H) (h : Ra K F H x d) (nd : ∀ kvs, d ≠ .dict kvs) : TyX K H x (.type (dTy d)) := by
  cases d with
  | none => cases h; exact .base .non
  | bool b => cases h; exact .base (.bl b)
  | int i => cases h; exact .base (.int i)
  | str z => cases h; exact .base (.str z)
  | list ds => obtain ⟨a, vs, rfl, h1, _⟩ := h; exact tyX_list h1
  | tuple ds => obtain ⟨a, vs, rfl, h1, _⟩ := h; exact tyX_tup (sqT_sub sub h1)
  | dict kvs => exact absurd rfl (nd kvs)
theorem kitB_of : ∀ (d : PyData) (t : Ty) (b : Bool), tyD d t = some b → kitB (dTy d) (tyN t) = some b := by
  have h1 : ∀ t : Ty, ∀ b, tyD .none t = some b → kitB "NoneType" (tyN t) = some b := by
    intro t b h; cases t <;> cases h <;> decide +kernel
  intro d t b h
  cases d with
  | none => exact h1 t b h
  | bool x => cases t <;> cases h <;> (show kitB "bool" _ = _; decide +kernel)
  | int x => cases t <;> cases h <;> (show kitB "int" _ = _; decide +kernel)
  | str x => cases t <;> cases h <;> (show kitB "str" _ = _; decide +kernel)
  | list x => cases t <;> cases h <;> (show kitB "list" _ = _; decide +kernel)
  | tuple x => cases t <;> cases h <;> (show kitB "tuple" _ = _; decide +kernel)
  | dict x => cases t <;> cases h
def rIsD (K : PySem.W.Frag) (t : Ty) : List V → Hp → VK → Prop := fun vs H Q => ∃ F x d b, vs = [x, .ty (tyN t)] ∧ Sub F H ∧ Ra K F H x d ∧ tyD d t = some b ∧ Q (.bl b) H
theorem call_isiD (t : Ty) : CallR X (.builtin "isinstance") (rIsD X.K t) := by
  intro pins s σ H xs us Q I rs h
  obtain ⟨F, x, d, b, rfl, sub, ha, hf, g⟩ := h
  exact call_isi pins s σ H _ us Q I rs ⟨x, .ty (tyN t), .type (dTy d), .type (tyN t), b, rfl, .ty _, tyX_of sub ha (fun kvs e => by subst e; cases t <;> cases hf), kit_ty (kitB_of d t b hf), g⟩
end
end FO

set_option Elab.async false
set_option linter.all false
set_option maxHeartbeats 1000000
namespace FO
open PySem L2
/-! the program's text read into the IR -/
/-- a program's own names: defs, constants, exception classes -/
structure Sx where
  fns : List (Str × Nat)
  gcs : List (Str × Nat)
  exs : List Str
  mks : List (Str × Nat × Nat)
  mts : List (Str × Nat × Nat)
  lens : List (Str × Nat × Nat)
  flds : List (Str × Nat)
/-- the exception classes are all there -/
def Sx.full (sx : Sx) : Bool := sx.exs == exN
def slotAt : List Str → Str → Nat → Option Nat
  | [], _, _ => none
  | y :: r, x, n => if y = x then some n else slotAt r x (n + 1)
def slotOf (N : List Str) (x : Str) : Option Nat := slotAt N x 0
theorem slotAt_ok : ∀ {N : List Str} {x : Str} {n i : Nat}, slotAt N x n = some i → n ≤ i ∧ N[i - n]? = some x
  | [], _, _, _, h => by cases h
  | y :: r, x, n, i, h => by
    unfold slotAt at h
    by_cases c : y = x
    · rw [if_pos c] at h
      cases h
      exact ⟨Nat.le_refl _, by simp [c]⟩
    · rw [if_neg c] at h
      obtain ⟨h1, h2⟩ := slotAt_ok h
      refine ⟨by omega, ?_⟩
      have e : i - n = (i - (n + 1)) + 1 := by omega
      rw [e, List.getElem?_cons_succ]
      exact h2
theorem slotOf_ok {N : List Str} {x : Str} {i : Nat} (h : slotOf N x = some i) : N[i]? = some x := (slotAt_ok h).2
def visB : Option NameKind → Bool
  | some .local => true
  | some .cell => true
  | some .free => true
  | _ => false
def glB : Option NameKind → Bool
  | some .globalImplicit => true
  | _ => false
def binOf : Operator → Option BinO
  | .Add => some .add
  | .Sub => some .sub
  | .Mult => some .mul
  | .FloorDiv => some .fdiv
  | .Mod => some .mod
  | .Pow => some .pow
  | _ => none
def cmpOf : CmpOp → CmpO
  | .Eq => .eq
  | .NotEq => .ne
  | .Lt => .lt
  | .LtE => .le
  | .Gt => .gt
  | .GtE => .ge
  | .Is => .is_
  | .IsNot => .isnot
  | .In => .in_
  | .NotIn => .notin
def constOf : Const → Option PyData
  | .none => some .none
  | .bool b => some (.bool b)
  | .int i => some (.int i)
  | .str x => some (.str x)
  | _ => none
def biOf (x : Str) : Option Bi :=
  if x = "len" then some .len else if x = "list" then some .list else if x = "tuple" then some .tuple else if x = "min" then some .min else if x = "max" then some .max
  else if x = "sum" then some .sum else if x = "all" then some .all else if x = "any" then some .any else if x = "sorted" then some .sorted else if x = "str" then some .str else if x = "int" then some .int else none
def bmOf (x : Str) : Option Bm := if x = "index" then some .index else if x = "startswith" then some .startswith else if x = "count" then some .count else if x = "join" then some .join else if x = "split" then some .split else none
def tyOf (x : Str) : Option Ty := if x = "int" then some .int else if x = "str" then some .str else if x = "bool" then some .bool else if x = "list" then some .list else if x = "tuple" then some .tuple else none
def isSlice : Expr → Bool
  | .Slice _ _ _ _ => true
  | _ => false
/-- the one slice with a step: all, backwards -/
def isRev : Expr → Bool
  | .Slice none none (some (.UnaryOp .USub (.Constant (.int i) _ _) _)) _ => decide (i = 1)
  | _ => false
theorem isRev_ok {b : Expr} (h : isRev b = true) : ∃ k p1 p2 p3, b = .Slice none none (some (.UnaryOp .USub (.Constant (.int 1) k p1) p2)) p3 := by
  unfold isRev at h
  split at h
  · have e := of_decide_eq_true h
    subst e
    exact ⟨_, _, _, _, rfl⟩
  · cases h
def isStar : Expr → Bool
  | .Starred _ _ => true
  | _ => false
def isSet : Expr → Bool
  | .Set _ _ _ => true
  | _ => false
def isCall0 : Expr → Bool
  | .Call _ _ _ _ => true
  | _ => false
/-- the one form whose attributes are asked of another object -/
def isSup : Expr → Bool
  | .Call (.Name _ _) [] [] _ => true
  | _ => false
/-- the names of a target, with their slots; in the order of their places -/
def cTg (N : List Str) : Nat → Expr → Option Tg
  | 0, _ => none
  | n + 1, e => match e with
    | .Name x _ => (slotOf N x).map .nm
    | .Tuple es _ _ => (cTgs n es).map .tp
    | _ => none
where
  cTgs : Nat → List Expr → Option Tgs
  | 0, _ => none
  | _ + 1, [] => some .nil
  | n + 1, e :: es => (cTg N n e).bind fun t => (cTgs n es).map fun ts => .cons t ts
def ownOf (N : List Str) (is : List Nat) : List (Str × Nat) := is.filterMap fun i => (N[i]?).map fun x => (x, i)
def locB : Option NameKind → Bool
  | some .local => true
  | some .cell => true
  | _ => false
/-- a comprehension's block: its names, and that its target's names are its own -/
def blkT (N : List Str) (sc scope : Scope) (t : Tg) : Bool := blkC N sc scope (ownOf N (tgOwn t)) && ((ownOf N (tgOwn t)).all fun p => locB (scope.names.lookup p.1)) && decide ((ownOf N (tgOwn t)).map (·.2) = tgOwn t)
/-- zip(a, b) -/
def zipArgs : Expr → Option (Expr × Expr)
  | .Call (.Name g _) [a, b] [] _ => if g = "zip" then some (a, b) else none
  | _ => none
theorem zipArgs_of {e a b : Expr} (h : zipArgs e = some (a, b)) : ∃ p q, e = .Call (.Name "zip" p) [a, b] [] q := by
  unfold zipArgs at h
  split at h
  · rename_i g p a' b' q
    split at h
    · rename_i hg
      cases h
      exact ⟨p, q, by rw [hg]⟩
    · cases h
  · cases h
/-- enumerate wants a target of several names -/
def enumOk : Expr → It → Bool
  | .Tuple _ _ _, _ => true
  | _, .enum _ => false
  | _, .enz _ _ => false
  | _, _ => true
/-- the constants that the text may write where a bound is left out -/
def cBound (f : Expr → Option E) : Option Expr → Option E
  | none => some (.c .none)
  | some e => match f e with
    | some (.c .none) => none
    | o => o
/-- a dict display's pairs -/
def dictP : List (Option Expr) → List Expr → Option (List (Expr × Expr))
  | [], [] => some []
  | some k :: ks, v :: vs => (dictP ks vs).map fun r => (k, v) :: r
  | _, _ => none
theorem dictP_ok : ∀ {ks : List (Option Expr)} {vs : List Expr} {ps : List (Expr × Expr)}, dictP ks vs = some ps → ks = (ps.map fun p => some p.1) ∧ vs = ps.map (·.2)
  | [], [], _, h => by cases h; exact ⟨rfl, rfl⟩
  | some k :: ks, v :: vs, _, h => by
    obtain ⟨r, h1, rfl⟩ := Option.map_eq_some_iff.mp (show (dictP ks vs).map (fun r => (k, v) :: r) = some _ from h)
    obtain ⟨e1, e2⟩ := dictP_ok h1
    exact ⟨by rw [e1]; rfl, by rw [e2]; rfl⟩
  | [], _ :: _, _, h => by cases h
  | none :: _, [], _, h => by cases h
  | none :: _, _ :: _, _, h => by cases h
  | some _ :: _, [], _, h => by cases h
def flatE : List (E × E) → Es
  | [] => .nil
  | p :: r => .cons p.1 (.cons p.2 (flatE r))
section
variable (sx : Sx) (N : List Str)
mutual
def cE : Nat → Scope → Expr → Option E
  | 0, _, _ => none
  | n + 1, sc, e => match e with
    | .Constant c _ _ => (constOf c).map .c
    | .Name x _ => if x = "__debug__" ∨ x = "__classdict__" then none else
        if visB (sc.names.lookup x) then (slotOf N x).map .v
        else if glB (sc.names.lookup x) then (sx.gcs.lookup x).map .g else none
    | .Tuple es _ _ => (cEs n sc es).map .tup
    | .List es _ => (cEs n sc es).map .lst
    | .BinOp a op b _ => (binOf op).bind fun o => (cE n sc a).bind fun x => (cE n sc b).map fun y => .bin o x y
    | .UnaryOp .Not a _ => (cE n sc a).map .not
    | .UnaryOp .USub a _ => (cE n sc a).map .neg
    | .BoolOp .And [a] _ => cE n sc a
    | .BoolOp .Or [a] _ => cE n sc a
    | .BoolOp .And (a :: b :: r) p => (cE n sc a).bind fun x => (cE n sc (.BoolOp .And (b :: r) p)).map fun y => .and x y
    | .BoolOp .Or (a :: b :: r) p => (cE n sc a).bind fun x => (cE n sc (.BoolOp .Or (b :: r) p)).map fun y => .or x y
    | .Compare a [o] [b] _ => if isSet b then none else (cE n sc a).bind fun x => (cE n sc b).map fun y => .cmp (cmpOf o) x y
    | .Compare a [o, p] [b, c] _ => if isSet b || isSet c then none else (cE n sc a).bind fun x => (cE n sc b).bind fun y => (cE n sc c).map fun z => .chain (cmpOf o) (cmpOf p) x y z
    | .IfExp t a b _ => (cE n sc t).bind fun x => (cE n sc a).bind fun y => (cE n sc b).map fun z => .ife x y z
    | .Subscript a (.Slice lo hi none _) _ => (cE n sc a).bind fun x => (cBound (cE n sc) lo).bind fun l => (cBound (cE n sc) hi).map fun h => .sl x l h
    | .Subscript a b _ => if isSlice b then (if isRev b then (cE n sc a).map fun x => .rev x else none) else (cE n sc a).bind fun x => (cE n sc b).map fun y => .ix x y
    | .Attribute o f _ => if isSup o then none else (sx.flds.lookup f).bind fun c => (cE n sc o).map fun x => .fld c x f
    | .Call (.Name f _) args [] _ => if f = "__debug__" ∨ f = "__name__" then none else if glB (sc.names.lookup f) then (match sx.fns.lookup f with
        | some k => (cEs n sc args).map fun es => .call k es
        | none => (match sx.mks.lookup f with
        | some p => if args.isEmpty then none else (cEs n sc args).map fun es => .mk p.1 p.2 es
        | none => (match args with
          | [.Call (.Name g _) [a] [] _] => if f = "len" ∧ g = "set" ∧ glB (sc.names.lookup g) = true then (cE n sc a).map fun x => .bi .lenset x else (biOf f).bind fun b => (args.head?).bind fun a => (cE n sc a).map fun x => .bi b x
          | [.Name y py] => (match sx.lens.lookup y with
            | some p => if f = "len" then (cE n sc (.Name y py)).map fun x => .lenI p.1 p.2 x else none
            | none => (biOf f).bind fun b => (cE n sc (.Name y py)).map fun x => .bi b x)
          | [a] => (biOf f).bind fun b => (cE n sc a).map fun x => .bi b x
          | [a, .Name t _] => if f = "isinstance" ∧ glB (sc.names.lookup t) = true then (match tyOf t with
              | some t => (cE n sc a).map fun x => .isi x t
              | none => if sx.full then (if t = "ValueError" then (cE n sc a).map fun x => .isv x else if t = "__debug__" then none else (slotOf sx.exs t).bind fun c => (cE n sc a).map fun x => .isx x c) else none) else none
          | [a, b] => if f = "max" then (cE n sc a).bind fun x => (cE n sc b).map fun y => .max2 x y else none
          | _ => none))) else none
    | .Call (.Attribute o m ap) args [] p => if isSup o || !(ap.endLine == p.line) || !(Nat.blt args.length 20) then none else (match sx.mts.lookup m with
        | some q => (cE n sc o).bind fun x => (cEs n sc args).map fun es => .mc q.1 q.2 m x es
        | none => (match args with
          | [] => if m = "pop" then (cE n sc o).map fun x => .pop x else none
          | [a] => if m = "get" then (cE n sc o).bind fun x => (cE n sc a).map fun y => .get1 x y else (bmOf m).bind fun k => (cE n sc o).bind fun x => (cE n sc a).map fun y => .bm k x y
          | [a, b] => if m = "setdefault" then (cE n sc o).bind fun x => (cE n sc a).bind fun y => (cE n sc b).map fun z => .setd x y z else if m = "get" then (cE n sc o).bind fun x => (cE n sc a).bind fun y => (cE n sc b).map fun z => .get2 x y z else none
          | _ => none))
    | .Dict ks vs _ => (dictP ks vs).bind fun ps => if Nat.ble ps.length 15 then (ps.mapM fun p => (cE n sc p.1).bind fun x => (cE n sc p.2).map fun y => (x, y)).map fun l => .dnew (flatE l) else none
    | .ListComp elt [⟨tg, it, [], 0⟩] scope _ => (cTg N n tg).bind fun t => (cI n sc it).bind fun i => if blkT N sc scope t && enumOk tg i then (cE n scope elt).map fun y => .comp t i (.c (.bool true)) y else none
    | .ListComp elt [⟨tg, it, [c], 0⟩] scope _ => (cTg N n tg).bind fun t => (cI n sc it).bind fun i => if blkT N sc scope t && enumOk tg i then (cE n scope c).bind fun x => (cE n scope elt).map fun y => .comp t i x y else none
    | _ => none
def cEs : Nat → Scope → List Expr → Option Es
  | 0, _, _ => none
  | _ + 1, _, [] => some .nil
  | n + 1, sc, e :: es => if isStar e then none else (cE n sc e).bind fun x => (cEs n sc es).map fun xs => .cons x xs
def cI : Nat → Scope → Expr → Option It
  | 0, _, _ => none
  | n + 1, sc, e => match e with
    | .Call (.Name f p) [a] [] q => if f = "range" then (if glB (sc.names.lookup f) && !isStar a then (cE n sc a).map fun x => .rng (.c (.int 0)) x else none)
        else if f = "enumerate" then (if glB (sc.names.lookup f) && !isStar a then (match zipArgs a with
          | some (b, c) => if glB (sc.names.lookup ("zip" : Str)) && (!isStar b && !isStar c) then (cE n sc b).bind fun x => (cE n sc c).map fun y => .enz x y else none
          | none => (cE n sc a).map fun x => .enum x) else none)
        else (cE n sc (.Call (.Name f p) [a] [] q)).map .e
    | .Call (.Name f p) [a, b] [] q => if f = "range" then (if glB (sc.names.lookup f) && (!isStar a && !isStar b) then (cE n sc a).bind fun x => (cE n sc b).map fun y => .rng x y else none)
        else (cE n sc (.Call (.Name f p) [a, b] [] q)).map .e
    | e => if isSet e then none else (cE n sc e).map .e
end
end
end FO

set_option Elab.async false
set_option linter.all false
set_option maxHeartbeats 1000000
set_option maxRecDepth 10000
namespace FO
open PySem L2
/-! ### readings over data -/
def RepA (K : Kw) (e : E) (ρ : Rho) (σ : St) (β : List Addr) (F : Hp) (v : V) (w : W) : Prop :=
  RepW K β F v w ∨ ∃ (i : Nat) (xs : List PyData), e = .v i ∧ ρ[i]? = some (.own xs) ∧ w = .d (.list xs) ∧ σ[i]? = some (some v)
section
variable {K : Kw} {Z : Bs} {β β' : List Addr} {F H F' H' : Hp} {ρ : Rho} {S S' : Sto} {σ : St} {v : V} {w : W} {e : E}
theorem repA_up (u : Up β F H β' F' H') (h : RepA K e ρ σ β F v w) : RepA K e ρ σ β' F' v w := by
  rcases h with h | h
  · exact .inl (repW_up u h)
  · exact .inr h
theorem map_fst_none (kvs : List (PyData × W)) : (kvs.map fun p => (p.1, PyData.none)).map (·.1) = kvs.map (·.1) := by
  rw [List.map_map]; rfl
theorem paired_map {α γ δ : Type} {R : α → γ → Prop} {Q : α → δ → Prop} {f : γ → δ} (h : ∀ a b, R a b → Q a (f b)) : ∀ {l : List α} {m : List γ}, Paired R l m → Paired Q l (m.map f)
  | _, _, .nil => .nil
  | _, _, .cons r t => .cons (h _ _ r) (paired_map h t)
theorem DctOk.dky {a : Addr} {o : Obj} {kvs : List (PyData × W)} (h : DctOk K β F a o kvs) : DKy K F a o (kvs.map fun p => (p.1, .none)) := by
  obtain ⟨es, ep, e1, e2⟩ := h.ents
  exact ⟨h.sys, h.ex, by rw [List.length_map]; exact h.few, ⟨es, ep, e1, paired_map (fun e p q => q.2.1) e2⟩, by rw [map_fst_none]; exact h.keys⟩
theorem repA_ra {d : PyData} (h : RepA K e ρ σ β F v w) (r : Rl K Z β F ρ S σ H) (e : vw S w = some d) : Ra K F H v d := by
  rcases h with h | ⟨i, xs, _, h1, rfl, h3⟩
  · cases w with
    | d x =>
      have e : some x = some d := e
      cases e
      exact ra_of h r.fh
    | ref n =>
      obtain ⟨a, ha, rfl⟩ := h
      unfold vw at e
      dsimp only at e
      cases q : S[n]? with
      | none => rw [q] at e; cases e
      | some c =>
        rw [q] at e
        cases c with
        | lst xs =>
          cases e
          obtain ⟨vs, k1, k2⟩ := r.st.cell n a _ ha q
          exact ⟨a, vs, rfl, .inl (.inl k1), k2⟩
        | dct kvs =>
          cases e
          obtain ⟨o, k1, k2⟩ := r.st.cell n a _ ha q
          exact ⟨a, o, rfl, k1, k2.dky⟩
        | lck kvs =>
          cases e
          obtain ⟨o, k1, _, k2⟩ := r.st.cell n a _ ha q
          exact ⟨a, o, rfl, k1, k2.dky⟩
        | dead => cases e
        | lstW ws => cases e
        | tupW ws => cases e
        | ins c fs => cases e
    | exc c => cases e
  · have e : some (PyData.list xs) = some d := e
    cases e
    obtain ⟨a, vs, k1, k2, _, _, _, k6⟩ := r.own i xs h1
    rw [h3] at k1
    cases k1
    exact ⟨a, vs, rfl, .inl (.inl k2), k6⟩
/-- a new cell -/
theorem Rl.cell {p : Addr} {o : HO} {c : Cell} (r : Rl K Z β F ρ S σ H) (hp : H p = none) (hc : CellOk K (β ++ [p]) F (upd H p o) p c) :
    Up β F H (β ++ [p]) F (upd H p o) ∧ Rl K Z (β ++ [p]) F ρ (S ++ [c]) σ (upd H p o) ∧ (β ++ [p])[S.length]? = some p := by
  have u : Up β F H (β ++ [p]) F (upd H p o) :=
    ⟨⟨[p], rfl, by simpa using hp⟩, Sub.refl F, fun _ _ _ _ => rfl, fun a o e _ => by rw [upd_ne (ne_of_none e hp)]; exact e, fun a o e => ⟨o, by rw [upd_ne (ne_of_none e hp)]; exact e⟩⟩
  have hl := r.st.len
  have hin : p ∉ β := fun hm => by
    obtain ⟨o, e⟩ := r.st.there hm
    rw [hp] at e; cases e
  have get : (β ++ [p])[S.length]? = some p := by rw [← hl, List.getElem?_append_right (Nat.le_refl _)]; simp
  refine ⟨u, r.next u (r.fh.trans (Sub.new hp)) ⟨by simp [hl], ?_, fun n a c' h1 h2 hd => ?_, fun n a c' h1 h2 => ?_⟩, get⟩
  · refine List.nodup_append.mpr ⟨r.st.nd, by simp, fun a ha b hb => ?_⟩
    have : b = p := by simpa using hb
    subst this
    intro e; subst e; exact hin ha
  · by_cases hn : n < S.length
    · rw [List.getElem?_append_left (by omega)] at h1
      rw [List.getElem?_append_left hn] at h2
      exact r.st.out n a c' h1 h2 hd
    · have hn2 : n = S.length := by
        have := (List.getElem?_eq_some_iff.mp h2).1
        rw [List.length_append, List.length_singleton] at this
        omega
      subst hn2
      rw [get] at h1
      cases h1
      exact r.fh.none hp
  · by_cases hn : n < S.length
    · rw [List.getElem?_append_left (by omega)] at h1
      rw [List.getElem?_append_left hn] at h2
      have hne : a ≠ p := fun z => hin (z ▸ List.mem_of_getElem? h1)
      exact (r.st.cell n a c' h1 h2).mono (Sub.refl F) (fun m b e => by rw [List.getElem?_append_left (List.getElem?_eq_some_iff.mp e).1]; exact e) fun o e => by rw [upd_ne hne]; exact e
    · have hn2 : n = S.length := by
        have := (List.getElem?_eq_some_iff.mp h2).1
        rw [List.length_append, List.length_singleton] at this
        omega
      subst hn2
      rw [get] at h1
      rw [List.getElem?_append_right (Nat.le_refl _)] at h2
      simp at h2
      cases h1
      subst h2
      exact hc
theorem repWs_more {p : Addr} {vs : List V} {ws : List W} (h : RepWs K β F vs ws) : RepWs K (β ++ [p]) F vs ws :=
  paired_imp (fun _ _ r => repW_mono (Sub.refl F) (fun n b e => by rw [List.getElem?_append_left (List.getElem?_eq_some_iff.mp e).1]; exact e) r) h
end
abbrev Wx := Nat → St → Hp → Prop
def tE (K : Kw) (wx : Wx) (P : Pg) (e : E) : TE := fun σ H Q => ∃ Z β F ρ S, Rl K Z β F ρ S σ H ∧ Pw K Z ρ σ (fun c => wx c σ) β F H (ev P e ρ S) fun w β' F' _ H' => ∀ v, RepW K β' F' v w → Q v H'
def tA (K : Kw) (wx : Wx) (P : Pg) (e : E) : TE := fun σ H Q => ∃ Z β F ρ S, Rl K Z β F ρ S σ H ∧ Pw K Z ρ σ (fun c => wx c σ) β F H (argm (ev P e ρ S) e ρ S) fun w β' F' _ H' => ∀ v, RepA K e ρ σ β' F' v w → Q v H'
def tT (K : Kw) (wx : Wx) (P : Pg) (e : E) : TT := fun σ H Q => ∃ Z β F ρ S, Rl K Z β F ρ S σ H ∧ Pw K Z ρ σ (fun c => wx c σ) β F H (ev P e ρ S) fun w _ _ _ H' => ∃ b, w = .d (.bool b) ∧ Q b H'
def tEs (K : Kw) (wx : Wx) (P : Pg) (es : Es) : TA := fun σ H Q => ∃ Z β F ρ S, Rl K Z β F ρ S σ H ∧ Pw K Z ρ σ (fun c => wx c σ) β F H (evs P es ρ S) fun ws β' F' _ H' => ∀ vs, RepWs K β' F' vs ws → Q vs H'
section
variable {X : Cx} {wx : Wx} {P : Pg} {K : Kw}
theorem PE.imp {e : Expr} {t t' : TE} (h : PE X e t) (i : ∀ σ H Q, t' σ H Q → t σ H Q) : PE X e t' := ⟨fun pins s σ H Q I q => h.run pins s σ H Q I (i σ H Q q)⟩
theorem PT.imp {e : Expr} {t t' : TT} (h : PT X e t) (i : ∀ σ H Q, t' σ H Q → t σ H Q) : PT X e t' := ⟨fun pins s σ H Q I q => h.run pins s σ H Q I (i σ H Q q)⟩
theorem PW.imp {e : Expr} {t t' : TT} (h : PW X e t) (i : ∀ σ H Q, t' σ H Q → t σ H Q) : PW X e t' := ⟨fun wh pins s σ H Q I q => h.run wh pins s σ H Q I (i σ H Q q)⟩
theorem PA.imp {es : List Expr} {t t' : TA} (h : PA X es t) (i : ∀ σ H Q, t' σ H Q → t σ H Q) : PA X es t' := ⟨fun pos pins s σ H Q I q => h.run pos pins s σ H Q I (i σ H Q q)⟩
/-- a test by its value -/
theorem tT_tE {e : E} {σ : St} {H : Hp} {Q : Bool → Hp → Prop} (h : tT K wx P e σ H Q) : tE K wx P e σ H fun x H' => ∃ k, x = .bl k ∧ Q k H' := by
  obtain ⟨Z, β, F, ρ, S, rl, h⟩ := h
  refine ⟨Z, β, F, ρ, S, rl, h.mono fun w β' F' S' H' _ _ ⟨b, e, q⟩ v r => ?_⟩
  subst e
  cases (show Dp K F' v (.bool b) from r)
  exact ⟨b, rfl, q⟩
/-- an operand is looked at: it is a value, or what a slot alone holds -/
theorem tA_tE {e : E} (hv : ∀ i, e ≠ .v i) {σ : St} {H : Hp} {Q : VK} (h : tA K wx P e σ H Q) : tE K wx P e σ H Q := by
  obtain ⟨Z, β, F, ρ, S, rl, h⟩ := h
  have ea : argm (ev P e ρ S) e ρ S = ev P e ρ S := by
    cases e <;> first | rfl | exact absurd rfl (hv _)
  rw [ea] at h
  exact ⟨Z, β, F, ρ, S, rl, h.mono fun w β' F' S' H' _ _ k v r => k v (.inl r)⟩
/-- the end of an operation over data -/
theorem Pw.lift {Z : Bs} {β : List Addr} {F H : Hp} {ρ : Rho} {S : Sto} {σ : St} {ex : Nat → Hp → Prop} {o : Option PyData} {k : W → List Addr → Hp → Sto → Hp → Prop} (h : Pw K Z ρ σ ex β F H (Res.lift S (o.map W.d)) k) (r : Rl K Z β F ρ S σ H) :
    ∃ d, o = some d ∧ ∀ F' H', Nw F H F' H' → k (.d d) β F' S H' := by
  cases o with
  | none => exact h.elim
  | some d => exact ⟨d, rfl, fun F' H' n => Pw.nw (a := W.d d) h r n⟩
theorem bind2_of {α β γ : Type} {a : Option α} {b : Option β} {f : α → β → Option γ} {r : γ} (h : (a.bind fun x => b.bind fun y => f x y) = some r) : ∃ x y, a = some x ∧ b = some y ∧ f x y = some r := by
  obtain ⟨x, e1, h⟩ := Option.bind_eq_some_iff.mp h
  obtain ⟨y, e2, h⟩ := Option.bind_eq_some_iff.mp h
  exact ⟨x, y, e1, e2, h⟩
/-! ### two operands -/
theorem two_D {a b : E} {f : PyData → PyData → Option PyData} {σ : St} {H : Hp} {Q : VK}
    (h : ∃ Z β F ρ S, Rl K Z β F ρ S σ H ∧ Pw K Z ρ σ (fun c => wx c σ) β F H ((argm (ev P a ρ S) a ρ S).bind fun w S1 => (argm (ev P b ρ S1) b ρ S1).bind fun u S2 => Res.lift S2 ((((vw S2 w).bind fun x => (vw S2 u).bind fun y => f x y)).map .d)) fun w β' F' _ H' => ∀ v, RepW K β' F' v w → Q v H') :
    tOp (rD2 K f) (tA K wx P a) (tA K wx P b) σ H Q := by
  obtain ⟨Z, β, F, ρ, S, rl, h⟩ := h
  refine ⟨Z, β, F, ρ, S, rl, h.bind.mono fun w β1 F1 S1 H1 u1 rl1 ⟨_, _, h1⟩ x rx => ?_⟩
  refine ⟨Z, β1, F1, ρ, S1, rl1, h1.bind.mono fun u β2 F2 S2 H2 u2 rl2 ⟨_, _, h2⟩ y ry => ?_⟩
  obtain ⟨r, er, k⟩ := Pw.lift h2 rl2
  obtain ⟨d, e, e1, e2, e3⟩ := bind2_of er
  exact ⟨F2, d, e, r, rl2.fh, repA_ra (repA_up u2 rx) rl2 e1, repA_ra ry rl2 e2, e3, fun v F' H' n dp => k F' H' n v dp⟩
theorem one_D {a : E} {f : PyData → Option PyData} {σ : St} {H : Hp} {Q : VK}
    (h : ∃ Z β F ρ S, Rl K Z β F ρ S σ H ∧ Pw K Z ρ σ (fun c => wx c σ) β F H ((argm (ev P a ρ S) a ρ S).data f) fun w β' F' _ H' => ∀ v, RepW K β' F' v w → Q v H') :
    tCB (rD1 K f) (tCons (tA K wx P a) tNil) σ H Q := by
  obtain ⟨Z, β, F, ρ, S, rl, h⟩ := h
  refine ⟨Z, β, F, ρ, S, rl, (Pw.bind (f := fun w S => Res.lift S (((vw S w).bind f).map W.d)) h).mono fun w β1 F1 S1 H1 u1 rl1 ⟨_, _, h1⟩ x rx => ?_⟩
  obtain ⟨r, er, k⟩ := Pw.lift h1 rl1
  obtain ⟨d, e1, e2⟩ := Option.bind_eq_some_iff.mp er
  exact ⟨F1, x, d, r, rfl, rl1.fh, repA_ra rx rl1 e1, e2, fun v F' H' n dp => k F' H' n v dp⟩
theorem allD_dp {β : List Addr} {F : Hp} : ∀ {vs : List V} {ws : List W} {ds : List PyData}, RepWs K β F vs ws → allD ws = some ds → DpAll K F vs ds
  | _, _, _, .nil, e => by cases e; exact .nil
  | _, _, _, .cons (b := w) h hs, e => by
    cases w with
    | d x =>
      obtain ⟨r, e1, rfl⟩ := map_of (show (allD _).map (x :: ·) = some _ from e)
      exact .cons h (allD_dp hs e1)
    | ref n => cases e
    | exc c => cases e
theorem tup_D {es : Es} {σ : St} {H : Hp} {Q : VK} (h : tE K wx P (.tup es) σ H Q) : tTup (tEs K wx P es) σ H Q := by
  obtain ⟨Z, β, F, ρ, S, rl, h⟩ := h
  simp only [ev] at h
  refine ⟨Z, β, F, ρ, S, rl, h.bind.mono fun ws β1 F1 S1 H1 u1 rl1 ⟨_, _, h1⟩ vs rv => ?_⟩
  unfold mkTup at h1
  by_cases hz : Nat.ble ws.length lim = true
  · rw [if_pos hz] at h1
    have hlen : vs.length ≤ sizeLine := by rw [paired_len rv]; exact lim_le hz
    cases e1 : allD ws with
    | some ds =>
      rw [e1] at h1
      have hd := allD_dp rv e1
      exact ⟨hlen, Gv.tup (fun v F' H' n dp => Pw.nw (a := W.d (.tuple ds)) h1 rl1 n v dp) rl1.fh hd⟩
    | none =>
      rw [e1] at h1
      refine ⟨hlen, fun p hp => ?_⟩
      obtain ⟨u, r, g⟩ := rl1.cell (c := .tupW ws) (o := .tup vs) hp ⟨vs, upd_same, repWs_more rv⟩
      exact h1 _ _ _ u r (.ref p) ⟨p, g, rfl⟩
  · rw [if_neg hz] at h1; exact h1.elim
theorem lst_D {es : Es} {σ : St} {H : Hp} {Q : VK} (h : tE K wx P (.lst es) σ H Q) : tLst (tEs K wx P es) σ H Q := by
  obtain ⟨Z, β, F, ρ, S, rl, h⟩ := h
  simp only [ev] at h
  refine ⟨Z, β, F, ρ, S, rl, h.bind.mono fun ws β1 F1 S1 H1 u1 rl1 ⟨_, _, h1⟩ vs rv => ?_⟩
  unfold mkLst at h1
  by_cases hz : Nat.ble ws.length lim = true
  · rw [if_pos hz] at h1
    have hlen : vs.length ≤ sizeLine := by rw [paired_len rv]; exact lim_le hz
    cases e1 : allD ws with
    | some ds =>
      rw [e1] at h1
      have hd := allD_dp rv e1
      exact ⟨hlen, Gv.lst (fun v F' H' n dp => Pw.nw (a := W.d (.list ds)) h1 rl1 n v dp) rl1.fh hd⟩
    | none =>
      rw [e1] at h1
      refine ⟨hlen, fun p hp => ?_⟩
      obtain ⟨u, r, g⟩ := rl1.cell (c := .lstW ws) (o := .lst vs) hp ⟨vs, upd_same, repWs_more rv⟩
      exact h1 _ _ _ u r (.ref p) ⟨p, g, rfl⟩
  · rw [if_neg hz] at h1; exact h1.elim
theorem nil_D {σ : St} {H : Hp} {Q : List V → Hp → Prop} (h : tEs K wx P .nil σ H Q) : tNil σ H Q := by
  obtain ⟨Z, β, F, ρ, S, rl, h⟩ := h
  simp only [evs] at h
  exact Pw.here h rl [] .nil
theorem cons_D {e : E} {es : Es} {σ : St} {H : Hp} {Q : List V → Hp → Prop} (h : tEs K wx P (.cons e es) σ H Q) : tCons (tE K wx P e) (tEs K wx P es) σ H Q := by
  obtain ⟨Z, β, F, ρ, S, rl, h⟩ := h
  simp only [evs] at h
  refine ⟨Z, β, F, ρ, S, rl, h.bind.mono fun w β1 F1 S1 H1 u1 rl1 ⟨_, _, h1⟩ x rx => ?_⟩
  refine ⟨Z, β1, F1, ρ, S1, rl1, h1.bind.mono fun ws β2 F2 S2 H2 u2 rl2 ⟨_, _, h2⟩ vs rv => ?_⟩
  exact Pw.here h2 rl2 (x :: vs) (.cons (repW_up u2 rx) rv)
theorem Pw.truth {Z : Bs} {β : List Addr} {F H : Hp} {ρ : Rho} {σ : St} {ex : Nat → Hp → Prop} {R : Res W} {f : Bool → Sto → Res W} {k : W → List Addr → Hp → Sto → Hp → Prop} (h : Pw K Z ρ σ ex β F H (truth R f) k) :
    Pw K Z ρ σ ex β F H R fun w β1 F1 S1 H1 => ∃ b, w = .d (.bool b) ∧ Up β F H β1 F1 H1 ∧ Rl K Z β1 F1 ρ S1 σ H1 ∧ Pw K Z ρ σ ex β1 F1 H1 (f b S1) k := by
  refine (Pw.bind h).mono fun w β1 F1 S1 H1 u1 rl1 ⟨h1, h2, h3⟩ => ?_
  cases w with
  | d x =>
    cases x with
    | bool b => exact ⟨b, rfl, h1, h2, h3⟩
    | _ => exact h3.elim
  | ref n => exact h3.elim
  | exc c => exact h3.elim
theorem neg_D {a : E} {σ : St} {H : Hp} {Q : VK} (h : tE K wx P (.neg a) σ H Q) : tUn (rU fun i => .int (-i)) (tE K wx P a) σ H Q := by
  obtain ⟨Z, β, F, ρ, S, rl, h⟩ := h
  simp only [ev] at h
  refine ⟨Z, β, F, ρ, S, rl, h.bind.mono fun w β1 F1 S1 H1 u1 rl1 ⟨_, _, h1⟩ x rx => ?_⟩
  cases w with
  | d y =>
    cases y with
    | int i =>
      cases (show Dp K F1 x (.int i) from rx)
      exact ⟨i, rfl, Pw.here h1 rl1 _ (Dp.int _)⟩
    | _ => exact h1.elim
  | ref n => exact h1.elim
  | exc c => exact h1.elim
theorem not_D {a : E} {σ : St} {H : Hp} {Q : VK} (h : tE K wx P (.not a) σ H Q) : tNotV (tE K wx P a) σ H Q := by
  obtain ⟨Z, β, F, ρ, S, rl, h⟩ := h
  simp only [ev] at h
  refine ⟨Z, β, F, ρ, S, rl, h.truth.mono fun w β1 F1 S1 H1 u1 rl1 ⟨b, e, _, _, h1⟩ x rx => ?_⟩
  subst e
  cases (show Dp K F1 x (.bool b) from rx)
  exact ⟨b, rfl, Pw.here h1 rl1 _ (Dp.bl _)⟩
theorem not_T {a : E} {σ : St} {H : Hp} {Q : Bool → Hp → Prop} (h : tT K wx P (.not a) σ H Q) : tNot (tT K wx P a) σ H Q := by
  obtain ⟨Z, β, F, ρ, S, rl, h⟩ := h
  simp only [ev] at h
  refine ⟨Z, β, F, ρ, S, rl, h.truth.mono fun w β1 F1 S1 H1 u1 rl1 ⟨b, e, _, _, h1⟩ => ⟨b, e, ?_⟩⟩
  obtain ⟨c, e2, q⟩ := Pw.here h1 rl1
  injection e2 with e2
  injection e2 with e2
  rw [e2]; exact q
theorem and_D {a b : E} {σ : St} {H : Hp} {Q : VK} (h : tE K wx P (.and a b) σ H Q) : tAndV (tE K wx P a) (fun σ H Q => ∃ q : Bool → Hp → Prop, tT K wx P b σ H q ∧ ∀ k H', q k H' → Q (.bl k) H') σ H Q := by
  obtain ⟨Z, β, F, ρ, S, rl, h⟩ := h
  simp only [ev] at h
  refine ⟨Z, β, F, ρ, S, rl, h.truth.mono fun w β1 F1 S1 H1 u1 rl1 ⟨c, e, _, _, h1⟩ x rx => ?_⟩
  subst e
  cases (show Dp K F1 x (.bool c) from rx)
  refine ⟨c, rfl, ?_⟩
  cases c with
  | false => exact Pw.here h1 rl1 _ (Dp.bl _)
  | true =>
    rw [if_pos rfl] at h1 ⊢
    refine ⟨fun k H' => Q (.bl k) H', ⟨Z, β1, F1, ρ, S1, rl1, h1.truth.mono fun w β2 F2 S2 H2 u2 rl2 ⟨d, e, _, _, h2⟩ => ⟨d, e, Pw.here h2 rl2 _ (Dp.bl _)⟩⟩, fun _ _ q => q⟩
theorem or_D {a b : E} {σ : St} {H : Hp} {Q : VK} (h : tE K wx P (.or a b) σ H Q) : tOrV (tE K wx P a) (fun σ H Q => ∃ q : Bool → Hp → Prop, tT K wx P b σ H q ∧ ∀ k H', q k H' → Q (.bl k) H') σ H Q := by
  obtain ⟨Z, β, F, ρ, S, rl, h⟩ := h
  simp only [ev] at h
  refine ⟨Z, β, F, ρ, S, rl, h.truth.mono fun w β1 F1 S1 H1 u1 rl1 ⟨c, e, _, _, h1⟩ x rx => ?_⟩
  subst e
  cases (show Dp K F1 x (.bool c) from rx)
  refine ⟨c, rfl, ?_⟩
  cases c with
  | true => exact Pw.here h1 rl1 _ (Dp.bl _)
  | false =>
    rw [if_neg Bool.false_ne_true] at h1 ⊢
    refine ⟨fun k H' => Q (.bl k) H', ⟨Z, β1, F1, ρ, S1, rl1, h1.truth.mono fun w β2 F2 S2 H2 u2 rl2 ⟨d, e, _, _, h2⟩ => ⟨d, e, Pw.here h2 rl2 _ (Dp.bl _)⟩⟩, fun _ _ q => q⟩
theorem and_T {a b : E} {σ : St} {H : Hp} {Q : Bool → Hp → Prop} (h : tT K wx P (.and a b) σ H Q) : tAnd (tT K wx P a) (tT K wx P b) σ H Q := by
  obtain ⟨Z, β, F, ρ, S, rl, h⟩ := h
  simp only [ev] at h
  refine ⟨Z, β, F, ρ, S, rl, h.truth.mono fun w β1 F1 S1 H1 u1 rl1 ⟨c, e, _, _, h1⟩ => ⟨c, e, ?_⟩⟩
  cases c with
  | false =>
    obtain ⟨d, e2, q⟩ := Pw.here h1 rl1
    injection e2 with e2; injection e2 with e2
    rw [if_neg Bool.false_ne_true, e2]; exact q
  | true =>
    rw [if_pos rfl] at h1 ⊢
    refine ⟨Z, β1, F1, ρ, S1, rl1, h1.truth.mono fun w β2 F2 S2 H2 u2 rl2 ⟨d, e, _, _, h2⟩ => ?_⟩
    obtain ⟨d', e2, q⟩ := Pw.here h2 rl2
    injection e2 with e2; injection e2 with e2
    exact ⟨d, e, by rw [e2]; exact q⟩
theorem or_T {a b : E} {σ : St} {H : Hp} {Q : Bool → Hp → Prop} (h : tT K wx P (.or a b) σ H Q) : tOr (tT K wx P a) (tT K wx P b) σ H Q := by
  obtain ⟨Z, β, F, ρ, S, rl, h⟩ := h
  simp only [ev] at h
  refine ⟨Z, β, F, ρ, S, rl, h.truth.mono fun w β1 F1 S1 H1 u1 rl1 ⟨c, e, _, _, h1⟩ => ⟨c, e, ?_⟩⟩
  cases c with
  | true =>
    obtain ⟨d, e2, q⟩ := Pw.here h1 rl1
    injection e2 with e2; injection e2 with e2
    rw [if_pos rfl, e2]; exact q
  | false =>
    rw [if_neg Bool.false_ne_true] at h1 ⊢
    refine ⟨Z, β1, F1, ρ, S1, rl1, h1.truth.mono fun w β2 F2 S2 H2 u2 rl2 ⟨d, e, _, _, h2⟩ => ?_⟩
    obtain ⟨d', e2, q⟩ := Pw.here h2 rl2
    injection e2 with e2; injection e2 with e2
    exact ⟨d, e, by rw [e2]; exact q⟩
theorem ife_D {t a b : E} {σ : St} {H : Hp} {Q : VK} (h : tE K wx P (.ife t a b) σ H Q) : tIf (tT K wx P t) (tE K wx P a) (tE K wx P b) σ H Q := by
  obtain ⟨Z, β, F, ρ, S, rl, h⟩ := h
  simp only [ev] at h
  refine ⟨Z, β, F, ρ, S, rl, h.truth.mono fun w β1 F1 S1 H1 u1 rl1 ⟨c, e, _, _, h1⟩ => ⟨c, e, ?_⟩⟩
  cases c with
  | true => rw [if_pos rfl] at h1 ⊢; exact ⟨Z, β1, F1, ρ, S1, rl1, h1⟩
  | false => rw [if_neg Bool.false_ne_true] at h1 ⊢; exact ⟨Z, β1, F1, ρ, S1, rl1, h1⟩
def tIfT (t a b : TT) : TT := fun σ H Q => t σ H fun k H1 => if k = true then a σ H1 Q else b σ H1 Q
theorem ife_T {t a b : E} {σ : St} {H : Hp} {Q : Bool → Hp → Prop} (h : tT K wx P (.ife t a b) σ H Q) : tIfT (tT K wx P t) (tT K wx P a) (tT K wx P b) σ H Q := by
  obtain ⟨Z, β, F, ρ, S, rl, h⟩ := h
  simp only [ev] at h
  refine ⟨Z, β, F, ρ, S, rl, h.truth.mono fun w β1 F1 S1 H1 u1 rl1 ⟨c, e, _, _, h1⟩ => ⟨c, e, ?_⟩⟩
  cases c with
  | true => rw [if_pos rfl] at h1 ⊢; exact ⟨Z, β1, F1, ρ, S1, rl1, h1⟩
  | false => rw [if_neg Bool.false_ne_true] at h1 ⊢; exact ⟨Z, β1, F1, ρ, S1, rl1, h1⟩
theorem pt_ifE {c a b : Expr} {tc ta tb : TT} {pos : Pos} (hc : PT X c tc) (ha : PT X a ta) (hb : PT X b tb) : PT X (.IfExp c a b pos) (tIfT tc ta tb) := by
  refine ⟨fun pins s σ H Q I h => ?_⟩
  show wpAny _ _ (do if ← isTrue c X.env (eval c X.env) then isTrue a X.env (eval a X.env) else isTrue b X.env (eval b X.env)) _ _ _
  refine wpAny_bind (thn (hc.run pins s σ H _ I h) fun k s1 ⟨H1, I1, q⟩ => ?_)
  cases k with
  | true => exact ha.run pins s1 σ H1 Q I1 q
  | false => exact hb.run pins s1 σ H1 Q I1 q
theorem chain_D {o p : CmpO} {a b c : E} {σ : St} {H : Hp} {Q : VK} (h : tE K wx P (.chain o p a b c) σ H Q) : tChain (rD2 K (cmpD o)) (rD2 K (cmpD p)) (tA K wx P a) (tA K wx P b) (tA K wx P c) σ H Q := by
  obtain ⟨Z, β, F, ρ, S, rl, h⟩ := h
  simp only [ev] at h
  refine ⟨Z, β, F, ρ, S, rl, h.bind.mono fun w β1 F1 S1 H1 u1 rl1 ⟨_, _, h1⟩ x rx => ?_⟩
  refine ⟨Z, β1, F1, ρ, S1, rl1, h1.bind.mono fun u β2 F2 S2 H2 u2 rl2 ⟨_, _, h2⟩ y ry => ?_⟩
  obtain ⟨r, er, k⟩ := Pw.lift h2.truth rl2
  obtain ⟨d, e, e1, e2, e3⟩ := bind2_of er
  refine ⟨F2, d, e, r, rl2.fh, repA_ra (repA_up u2 rx) rl2 e1, repA_ra ry rl2 e2, e3, fun v F' H' n dp => ?_⟩
  obtain ⟨kb, eb, u3, rl3, h3⟩ := k F' H' n
  injection eb with eb
  subst eb
  cases dp
  refine ⟨kb, rfl, ?_⟩
  cases kb with
  | false => rw [if_neg Bool.false_ne_true] at h3 ⊢; exact Pw.here h3 rl3 _ (Dp.bl _)
  | true =>
    rw [if_pos rfl] at h3 ⊢
    refine ⟨Z, β2, F', ρ, S2, rl3, h3.bind.mono fun z β4 F4 S4 H4 u4 rl4 ⟨_, _, h4⟩ y' ry' => ?_⟩
    obtain ⟨r', er', k'⟩ := Pw.lift h4 rl4
    obtain ⟨d', e', e1', e2', e3'⟩ := bind2_of er'
    exact ⟨F4, d', e', r', rl4.fh, repA_ra (repA_up u4 (repA_up u3 ry)) rl4 e1', repA_ra ry' rl4 e2', e3', fun v F' H' n dp => k' F' H' n v dp⟩
end
end FO

set_option Elab.async false
set_option linter.all false
set_option maxHeartbeats 1000000
set_option maxRecDepth 10000
namespace FO
open PySem PySem.Spec L2
/-! ### data as keys -/
theorem keyOk_tup {n : Nat} {xs : List PyData} (h : keyOk (n + 1) (.tuple xs) = true) : ∀ x ∈ xs, keyOk n x = true := fun x hx => List.all_eq_true.mp h x hx
theorem key_cases {n : Nat} {d : PyData} (h : keyOk n d = true) : (∃ i, d = .int i) ∨ (∃ x, d = .str x) ∨ ∃ m xs, n = m + 1 ∧ d = .tuple xs := by
  cases d with
  | int i => exact .inl ⟨i, rfl⟩
  | str x => exact .inr (.inl ⟨x, rfl⟩)
  | tuple xs =>
    cases n with
    | zero => cases h
    | succ m => exact .inr (.inr ⟨m, xs, rfl, rfl⟩)
  | none => cases n <;> cases h
  | bool b => cases n <;> cases h
  | list xs => cases n <;> cases h
  | dict kvs => cases n <;> cases h
theorem nkey_int (n : Nat) (i : Int) : nkey n (.int i) = .num i := by cases n <;> rfl
theorem nkey_str (n : Nat) (x : Str) : nkey n (.str x) = .text x := by cases n <;> rfl
theorem key_beq : ∀ (n : Nat) {a b : PyData}, keyOk n a = true → keyOk n b = true → NestedKey.beq (nkey n a) (nkey n b) = PyData.eqv a b
  | n, a, b, ha, hb => by
    rcases key_cases ha with ⟨i, rfl⟩ | ⟨x, rfl⟩ | ⟨m, xs, rfl, rfl⟩
    · rcases key_cases hb with ⟨j, rfl⟩ | ⟨y, rfl⟩ | ⟨m', ys, rfl, rfl⟩
      · rw [nkey_int, nkey_int]
        simp only [NestedKey.beq, PyData.eqv]
        by_cases c : i = j
        · subst c; simp
        · rw [decide_eq_false c]; exact (beq_eq_false_iff_ne.mpr c).symm
      · rw [nkey_int, nkey_str]; simp only [NestedKey.beq, PyData.eqv]
      · rw [nkey_int]; simp only [nkey, NestedKey.beq, PyData.eqv]
    · rcases key_cases hb with ⟨j, rfl⟩ | ⟨y, rfl⟩ | ⟨m', ys, rfl, rfl⟩
      · rw [nkey_int, nkey_str]; simp only [NestedKey.beq, PyData.eqv]
      · rw [nkey_str, nkey_str]
        simp only [NestedKey.beq, PyData.eqv]
        by_cases c : x = y
        · subst c; simp
        · rw [decide_eq_false c]; exact (beq_eq_false_iff_ne.mpr c).symm
      · rw [nkey_str]; simp only [nkey, NestedKey.beq, PyData.eqv]
    · rcases key_cases hb with ⟨j, rfl⟩ | ⟨y, rfl⟩ | ⟨m', ys, e, rfl⟩
      · rw [nkey_int]; simp only [nkey, NestedKey.beq, PyData.eqv]
      · rw [nkey_str]; simp only [nkey, NestedKey.beq, PyData.eqv]
      · cases e
        simp only [nkey, NestedKey.beq, PyData.eqv]
        have h1 := keyOk_tup ha
        have h2 := keyOk_tup hb
        have key : ∀ (xs ys : List PyData), (∀ x ∈ xs, keyOk m x = true) → (∀ y ∈ ys, keyOk m y = true) → NestedKey.beqAll (xs.map (nkey m)) (ys.map (nkey m)) = PyData.eqvAll xs ys := by
          intro xs
          induction xs with
          | nil => intro ys _ _; cases ys <;> simp only [List.map_nil, List.map_cons, NestedKey.beqAll, PyData.eqvAll]
          | cons x r ih =>
            intro ys hx hy
            cases ys with
            | nil => simp only [List.map_nil, List.map_cons, NestedKey.beqAll, PyData.eqvAll]
            | cons y t =>
              simp only [List.map_cons, NestedKey.beqAll, PyData.eqvAll]
              rw [key_beq m (hx x List.mem_cons_self) (hy y List.mem_cons_self), ih t (fun z hz => hx z (List.mem_cons_of_mem _ hz)) fun z hz => hy z (List.mem_cons_of_mem _ hz)]
        exact key xs ys h1 h2
theorem key_eqv {a b : PyData} (ha : keyOk 8 a = true) (hb : keyOk 8 b = true) : PyData.eqv a b = decide (nkey 8 a = nkey 8 b) := by
  rw [NestedKey.decide_eq, key_beq 8 ha hb]
section
variable {X : Cx} {pins : List (Addr × Obj)} {σ : St} {F H : Hp} {s : Shared}
theorem key_is (I : Inv X pins σ H s) (sub : Sub F H) : ∀ (n : Nat) {v : V} {u : Value} {d : PyData}, keyOk n d = true → Dp X.K F v d → RelV v u → NestedIs s.heap (nkey n d) u ∧ (nkey n d).depth ≤ n
  | n, v, u, d, h, dp, r => by
    rcases key_cases h with ⟨i, rfl⟩ | ⟨x, rfl⟩ | ⟨m, xs, rfl, rfl⟩
    · cases dp
      obtain ⟨t, rfl⟩ := r
      rw [nkey_int]
      exact ⟨.int i t, by simp [NestedKey.depth]⟩
    · cases dp
      obtain ⟨t, rfl⟩ := r
      rw [nkey_str]
      exact ⟨.text x t, by simp [NestedKey.depth]⟩
    · have hk := keyOk_tup h
      cases dp with
      | @tup a vs _ hq hs =>
        cases r
        obtain ⟨its, rv, ⟨o, e1, e2, k, e3⟩, _⟩ := I.tuple (sqT_sub sub hq)
        have key : ∀ {vs : List V} {ds : List PyData} {its : List Value}, DpAll X.K F vs ds → Vals vs its → (∀ d ∈ ds, keyOk m d = true) → NestedAll s.heap (ds.map (nkey m)) its ∧ NestedKey.depthAll (ds.map (nkey m)) ≤ m := by
          intro vs ds its hd
          induction ds generalizing vs its with
          | nil => intro hv _; cases hd; cases hv; exact ⟨.nil, by simp [NestedKey.depthAll]⟩
          | cons d r ih =>
            intro hv hk
            cases hd with
            | cons d1 d2 =>
              cases hv with
              | cons r1 r2 =>
                obtain ⟨a1, a2⟩ := key_is I sub m (hk d List.mem_cons_self) d1 r1
                obtain ⟨b1, b2⟩ := ih d2 r2 fun z hz => hk z (List.mem_cons_of_mem _ hz)
                exact ⟨.cons a1 b1, by simp only [List.map_cons, NestedKey.depthAll]; exact Nat.max_le.mpr ⟨a2, b2⟩⟩
        obtain ⟨b1, b2⟩ := key hs rv hk
        refine ⟨?_, by simp only [nkey, NestedKey.depth]; omega⟩
        simp only [nkey]
        exact .tup e1 e2 e3 (by simpa using b1)
/-! ### a dict whose keys are tuples -/
/-- an entry, with its key as the library wants it -/
def EnH (X : Cx) (β : List Addr) (F : Hp) (x : NestedKey × Addr × Value) (p : PyData × W) : Prop := x.1 = nkey 8 p.1 ∧ Dp X.K F (.ref x.2.1) p.1 ∧ ∃ vv, RelV vv x.2.2 ∧ RepW (kx X) β F vv p.2
theorem xo_get {a : Addr} {o : Obj} (I : Inv X pins σ H s) (h : H a = some (xO a o)) : s.heap.get? a = some o := (I.hok a _ h).1
theorem ents_H {β : List Addr} : ∀ {es : List DictEntry} {kvs : List (PyData × W)}, Paired (EntOk (kx X) β F) es kvs → (∀ p ∈ kvs, isTupD p.1 = true) → ∃ xs, es = xs.map (entryOfKey (nestedKind X.prog X.w)) ∧ Paired (EnH X β F) xs kvs
  | _, _, .nil, _ => ⟨[], rfl, .nil⟩
  | _, _, .cons (a := e) (b := p) h t, ht => by
    obtain ⟨xs, h1, h2⟩ := ents_H t fun q hq => ht q (List.mem_cons_of_mem _ hq)
    obtain ⟨hh, ⟨kv, k1, k2⟩, vv, k3, k4⟩ := h
    have hp := ht p List.mem_cons_self
    obtain ⟨pk, pw⟩ := p
    cases pk with
    | tuple ds =>
      cases k2 with
      | @tup a vs _ hq hs =>
        obtain ⟨eh, ek, evl⟩ := e
        cases (show ek = Value.ref a from k1)
        have hh : eh = (nkey 8 (.tuple ds)).hash X.w := hh
        refine ⟨(nkey 8 (.tuple ds), a, evl) :: xs, ?_, .cons ⟨rfl, .tup hq hs, vv, k3, k4⟩ h2⟩
        rw [List.map_cons, ← h1, hh]
        rfl
    | _ => cases hp
theorem ents_back {β : List Addr} : ∀ {xs : List (NestedKey × Addr × Value)} {kvs : List (PyData × W)}, Paired (EnH X β F) xs kvs → Paired (EntOk (kx X) β F) (xs.map (entryOfKey (nestedKind X.prog X.w))) kvs
  | _, _, .nil => .nil
  | _, _, .cons (a := x) (b := p) ⟨h1, h2, vv, h3, h4⟩ t => by
    refine .cons ⟨?_, ⟨.ref x.2.1, rfl, h2⟩, vv, h3, h4⟩ (ents_back t)
    show x.1.hash X.w = _
    rw [h1]
theorem keys_H {β : List Addr} : ∀ {xs : List (NestedKey × Addr × Value)} {kvs : List (PyData × W)}, Paired (EnH X β F) xs kvs → xs.map (·.1) = (kvs.map (·.1)).map (nkey 8)
  | _, _, .nil => rfl
  | _, _, .cons h t => by rw [List.map_cons, List.map_cons, List.map_cons, keys_H t, h.1]
theorem dc_H {β : List Addr} {a : Addr} {o : Obj} {kvs : List (PyData × W)} (I : Inv X pins σ H s) (sub : Sub F H) (h : H a = some (xO a o)) (d : DctOk (kx X) β F a o kvs) (ht : ∀ p ∈ kvs, isTupD p.1 = true) :
    ∃ xs, s.heap.DictOfH (nestedKind X.prog X.w) a xs ∧ Paired (EnH X β F) xs kvs := by
  obtain ⟨es, ep, e1, e2⟩ := d.ents
  obtain ⟨xs, h1, h2⟩ := ents_H e2 ht
  refine ⟨xs, ⟨o, es, ep, xo_get I h, d.ex, e1, h1, fun x hx => ?_, by rw [keys_H h2]; exact d.keys.nd⟩, h2⟩
  obtain ⟨i, hi, e⟩ := List.getElem_of_mem hx
  have hl : i < kvs.length := by rw [← paired_len h2]; exact hi
  obtain ⟨y, q1, q2⟩ := paired_get (i := i) (b := kvs[i]) h2 (List.getElem?_eq_getElem hl)
  rw [List.getElem?_eq_getElem hi, e] at q1
  cases q1
  obtain ⟨k1, k2, _⟩ := q2
  have hm : kvs[i].1 ∈ kvs.map (·.1) := List.mem_map.mpr ⟨_, List.getElem_mem hl, rfl⟩
  obtain ⟨z1, z2⟩ := key_is I sub 8 (d.keys.ok _ hm) k2 (show RelV (.ref x.2.1) (.ref x.2.1) from rfl)
  rw [k1]
  exact ⟨z1, z2⟩
/-- the object of a dict that the library tells of -/
theorem dc_back {β : List Addr} {a : Addr} {h' : Heap} {xs : List (NestedKey × Addr × Value)} {kvs : List (PyData × W)} (sys : (a == sysModules) = false) (dd : h'.DictOfH (nestedKind X.prog X.w) a xs) (r : Paired (EnH X β F) xs kvs) (few : kvs.length ≤ 1000000) (hk : ∀ k ∈ kvs.map (·.1), keyOk 8 k = true) (ho : ∀ k ∈ kvs.map (·.1), ∀ l ∈ kvs.map (·.1), isTupD k = isTupD l) :
    ∃ o, h'.get? a = some o ∧ DctOk (kx X) β F a o kvs := by
  obtain ⟨o, es, ep, h1, h2, h3, h4, _, h5⟩ := dd
  refine ⟨o, h1, sys, h2, few, ⟨es, ep, h3, by rw [h4]; exact ents_back r⟩, hk, ho, ?_⟩
  rw [← keys_H r]
  exact h5
/-- what stands at a key -/
theorem at_H {β : List Addr} {k : PyData} (hk : keyOk 8 k = true) : ∀ {xs : List (NestedKey × Addr × Value)} {kvs : List (PyData × W)}, Paired (EnH X β F) xs kvs → (∀ q ∈ kvs.map (·.1), keyOk 8 q = true) →
    match dget kvs k with
    | some w => ∃ p vv, atKey xs (nkey 8 k) = some p ∧ RelV vv p.2 ∧ RepW (kx X) β F vv w
    | none => atKey xs (nkey 8 k) = none
  | _, _, .nil, _ => rfl
  | _, _, .cons (a := x) (b := p) (l₁ := xs) (l₂ := kvs) ⟨h1, h2, vv, h3, h4⟩ t, ok => by
    have hp : keyOk 8 p.1 = true := ok _ List.mem_cons_self
    have ih := at_H hk t fun q hq => ok q (List.mem_cons_of_mem _ hq)
    unfold dget atKey at ih ⊢
    rw [List.find?_cons, List.find?_cons, key_eqv hp hk, h1]
    by_cases c : nkey 8 p.1 = nkey 8 k
    · rw [decide_eq_true c]
      exact ⟨x.2, vv, rfl, h3, h4⟩
    · rw [decide_eq_false c]
      exact ih
theorem put_H {β : List Addr} {k : PyData} {t : Addr} {vv : V} {v : Value} {w : W} (hk : keyOk 8 k = true) (hd : Dp X.K F (.ref t) k) (hv : RelV vv v) (hw : RepW (kx X) β F vv w) {xs : List (NestedKey × Addr × Value)} {kvs : List (PyData × W)} (r : Paired (EnH X β F) xs kvs) (ok : ∀ q ∈ kvs.map (·.1), keyOk 8 q = true) :
    Paired (EnH X β F) (storedH xs (nkey 8 k) t v) (dput kvs k w) := by
  have h0 := at_H hk r ok
  have hs : (dget kvs k).isSome = dhas kvs k := by
    unfold dget dhas
    rw [Option.isSome_map, Bool.eq_iff_iff, List.find?_isSome, List.any_eq_true]
  unfold storedH dput
  rw [← hs]
  cases e : dget kvs k with
  | some w0 =>
    rw [e] at h0
    obtain ⟨p, _, h0, _⟩ := h0
    rw [h0]
    simp only [Option.isSome_some, if_true]
    have key : ∀ {xs : List (NestedKey × Addr × Value)} {kvs : List (PyData × W)}, Paired (EnH X β F) xs kvs → (∀ q ∈ kvs.map (·.1), keyOk 8 q = true) → Paired (EnH X β F) (xs.map (putAt (nkey 8 k) v)) (kvs.map fun p => if PyData.eqv p.1 k then (p.1, w) else p) := by
      intro xs kvs r
      induction r with
      | nil => intro _; exact .nil
      | @cons x p xs kvs h t ih =>
        intro ok
        rw [List.map_cons, List.map_cons]
        refine .cons ?_ (ih fun q hq => ok q (List.mem_cons_of_mem _ hq))
        have hp : keyOk 8 p.1 = true := ok _ List.mem_cons_self
        obtain ⟨h1, h2, h3⟩ := h
        unfold putAt
        rw [key_eqv hp hk, h1]
        by_cases c : nkey 8 p.1 = nkey 8 k
        · rw [if_pos c, decide_eq_true c, if_pos rfl]
          exact ⟨h1 ▸ rfl, h2, vv, hv, hw⟩
        · rw [if_neg c, decide_eq_false c, if_neg Bool.false_ne_true]
          exact ⟨h1, h2, h3⟩
    exact key r ok
  | none =>
    rw [e] at h0
    rw [h0]
    simp only [Option.isSome_none, if_false]
    have app : ∀ {xs : List (NestedKey × Addr × Value)} {kvs : List (PyData × W)}, Paired (EnH X β F) xs kvs → Paired (EnH X β F) (xs ++ [(nkey 8 k, t, v)]) (kvs ++ [(k, w)]) := by
      intro xs kvs r
      induction r with
      | nil => exact .cons ⟨rfl, hd, vv, hv, hw⟩ .nil
      | cons h _ ih => exact .cons h ih
    simpa using app r
/-! ### a dict whose keys are ints or strs -/
def skey : PyData → L2.Key
  | .int i => .inl i
  | .str x => .inr x
  | _ => .inl 0
def sNK : L2.Key → NestedKey
  | .inl i => .num i
  | .inr x => .text x
theorem sNK_inj {a b : L2.Key} (h : sNK a = sNK b) : a = b := by
  cases a <;> cases b <;> first | (injection h with h; rw [h]) | (cases h)
theorem sk_cases {k : PyData} (h : keyOk 8 k = true) (ht : isTupD k = false) : (∃ i, k = .int i) ∨ ∃ x, k = .str x := by
  rcases key_cases h with ⟨i, rfl⟩ | ⟨x, rfl⟩ | ⟨m, xs, _, rfl⟩
  · exact .inl ⟨i, rfl⟩
  · exact .inr ⟨x, rfl⟩
  · cases ht
theorem nkey_s {k : PyData} (h : keyOk 8 k = true) (ht : isTupD k = false) : nkey 8 k = sNK (skey k) := by
  rcases sk_cases h ht with ⟨i, rfl⟩ | ⟨x, rfl⟩ <;> rfl
theorem hash_s (w : World) (k : L2.Key) : (sNK k).hash w = keyH w k := by
  cases k <;> simp only [sNK, NestedKey.hash] <;> rfl
/-- an entry, with its key as the library wants it -/
def EnS (X : Cx) (β : List Addr) (F : Hp) (x : L2.Key × Value) (p : PyData × W) : Prop := (x.1 = skey p.1 ∧ keyOk 8 p.1 = true ∧ isTupD p.1 = false) ∧ ∃ vv, RelV vv x.2 ∧ RepW (kx X) β F vv p.2
theorem rel_s {k : PyData} {kv : V} (h : keyOk 8 k = true) (ht : isTupD k = false) (dp : Dp X.K F kv k) : kv = kV (skey k) := by
  rcases sk_cases h ht with ⟨i, rfl⟩ | ⟨x, rfl⟩ <;> (cases dp; rfl)
theorem dp_s {k : PyData} (h : keyOk 8 k = true) (ht : isTupD k = false) : Dp X.K F (kV (skey k)) k := by
  rcases sk_cases h ht with ⟨i, rfl⟩ | ⟨x, rfl⟩
  · exact .int i
  · exact .str x
theorem ents_S {β : List Addr} : ∀ {es : List DictEntry} {kvs : List (PyData × W)}, Paired (EntOk (kx X) β F) es kvs → (∀ p ∈ kvs, isTupD p.1 = false ∧ keyOk 8 p.1 = true) → ∃ vs, Pairs (mixKind X.prog X.w) es vs ∧ Paired (EnS X β F) vs kvs ∧ ∀ e ∈ es, ∃ k, (mixKind X.prog X.w).is k e.key = true ∧ e.hash = (mixKind X.prog X.w).hash k
  | _, _, .nil, _ => ⟨[], .nil, .nil, fun _ h => nomatch h⟩
  | _, _, .cons (a := e) (b := p) h t, ht => by
    obtain ⟨vs, h1, h2, h3⟩ := ents_S t fun q hq => ht q (List.mem_cons_of_mem _ hq)
    obtain ⟨hh, ⟨kv, k1, k2⟩, vv, k3, k4⟩ := h
    obtain ⟨p1, p2⟩ := ht p List.mem_cons_self
    have ek := rel_s p2 p1 k2
    subst ek
    have his : (mixKind X.prog X.w).is (skey p.1) e.key = true := kV_is k1
    refine ⟨(skey p.1, e.val) :: vs, .cons his rfl h1, .cons ⟨⟨rfl, p2, p1⟩, vv, k3, k4⟩ h2, fun e' he => ?_⟩
    rcases List.mem_cons.mp he with rfl | he
    · refine ⟨skey p.1, his, ?_⟩
      rw [hh, nkey_s p2 p1]
      exact hash_s X.w _
    · exact h3 e' he
theorem keys_S {β : List Addr} : ∀ {vs : List (L2.Key × Value)} {kvs : List (PyData × W)}, Paired (EnS X β F) vs kvs → (vs.map (·.1)).map sNK = (kvs.map (·.1)).map (nkey 8)
  | _, _, .nil => rfl
  | _, _, .cons h t => by rw [List.map_cons, List.map_cons, List.map_cons, List.map_cons, keys_S t, h.1.1, nkey_s h.1.2.1 h.1.2.2]
theorem dc_S {β : List Addr} {a : Addr} {o : Obj} {kvs : List (PyData × W)} (I : Inv X pins σ H s) (h : H a = some (xO a o)) (d : DctOk (kx X) β F a o kvs) (ht : ∀ p ∈ kvs, isTupD p.1 = false) :
    ∃ vs, s.heap.DictOf (mixKind X.prog X.w) a vs ∧ Paired (EnS X β F) vs kvs := by
  obtain ⟨es, ep, e1, e2⟩ := d.ents
  obtain ⟨vs, h1, h2, h3⟩ := ents_S e2 fun p hp => ⟨ht p hp, d.keys.ok _ (List.mem_map.mpr ⟨p, hp, rfl⟩)⟩
  refine ⟨vs, ⟨o, es, ep, xo_get I h, d.ex, e1, fun e he => h3 e (by simpa using he), h1, ?_⟩, h2⟩
  have nd := d.keys.nd
  rw [← keys_S h2] at nd
  exact List.Pairwise.of_map sNK (fun _ _ hne e => hne (congrArg sNK e)) nd
theorem ents_backS {β : List Addr} : ∀ {es : List DictEntry} {vs : List (L2.Key × Value)} {kvs : List (PyData × W)}, Pairs (mixKind X.prog X.w) es vs → (∀ e ∈ es, ∃ k, (mixKind X.prog X.w).is k e.key = true ∧ e.hash = (mixKind X.prog X.w).hash k) → Paired (EnS X β F) vs kvs → Paired (EntOk (kx X) β F) es kvs
  | _, _, _, .nil, _, .nil => .nil
  | e :: es, kv :: vs, p :: kvs, .cons hi hv t, hk, .cons ⟨⟨h1, h2, h3⟩, vv, h4, h5⟩ t2 => by
    obtain ⟨k, k1, k2⟩ := hk e List.mem_cons_self
    have ek : k = kv.1 := (mixKind X.prog X.w).inj e.key k kv.1 k1 hi
    refine .cons ⟨?_, ⟨kV (skey p.1), ?_, dp_s h2 h3⟩, vv, by rw [hv]; exact h4, h5⟩ (ents_backS t (fun e' he => hk e' (List.mem_cons_of_mem _ he)) t2)
    · rw [k2, ek, h1, nkey_s h2 h3]
      exact (hash_s X.w _).symm
    · rw [h1] at hi
      rcases keyIs_shape (show keyIs (skey p.1) e.key = true from hi) with ⟨i, u, q1, q2⟩ | ⟨x, u, q1, q2⟩
      · rw [q1, q2]; exact ⟨u, rfl⟩
      · rw [q1, q2]; exact ⟨u, rfl⟩
theorem dc_backS {β : List Addr} {a : Addr} {h' : Heap} {vs : List (L2.Key × Value)} {kvs : List (PyData × W)} (sys : (a == sysModules) = false) (dd : h'.DictOf (mixKind X.prog X.w) a vs) (r : Paired (EnS X β F) vs kvs) (few : kvs.length ≤ 1000000) :
    ∃ o, h'.get? a = some o ∧ DctOk (kx X) β F a o kvs := by
  obtain ⟨o, es, ep, h1, h2, h3, h4, h5, h6⟩ := dd
  have all : ∀ p ∈ kvs, keyOk 8 p.1 = true ∧ isTupD p.1 = false := fun p hp => by
    obtain ⟨i, hi, e⟩ := List.getElem_of_mem hp
    obtain ⟨x, _, q2⟩ := paired_get (i := i) (b := p) r (by rw [List.getElem?_eq_getElem hi, e])
    exact q2.1.2
  refine ⟨o, h1, sys, h2, few, ⟨es, ep, h3, ents_backS h5 (fun e he => h4 e (by simpa using he)) r⟩, ⟨fun k hk => ?_, fun k hk l hl => ?_, ?_⟩⟩
  · obtain ⟨p, hp, rfl⟩ := List.mem_map.mp hk
    exact (all p hp).1
  · obtain ⟨p, hp, rfl⟩ := List.mem_map.mp hk
    obtain ⟨q, hq, rfl⟩ := List.mem_map.mp hl
    rw [(all p hp).2, (all q hq).2]
  · rw [← keys_S r]
    exact List.Pairwise.map sNK (fun _ _ hne e => hne (sNK_inj e)) h6
theorem eqv_s {a b : PyData} (ha : keyOk 8 a = true ∧ isTupD a = false) (hb : keyOk 8 b = true ∧ isTupD b = false) : PyData.eqv a b = decide (skey a = skey b) := by
  rw [key_eqv ha.1 hb.1, nkey_s ha.1 ha.2, nkey_s hb.1 hb.2]
  by_cases c : skey a = skey b
  · rw [c]; simp
  · rw [decide_eq_false c, decide_eq_false fun z => c (sNK_inj z)]
theorem at_S {β : List Addr} {k : PyData} (hk : keyOk 8 k = true ∧ isTupD k = false) : ∀ {xs : List (L2.Key × Value)} {kvs : List (PyData × W)}, Paired (EnS X β F) xs kvs →
    match dget kvs k with
    | some w => ∃ v vv, valueAt xs (skey k) = some v ∧ RelV vv v ∧ RepW (kx X) β F vv w
    | none => valueAt xs (skey k) = none
  | _, _, .nil => rfl
  | _, _, .cons (a := x) (b := p) ⟨⟨h1, h2, h2'⟩, vv, h3, h4⟩ t => by
    have ih := at_S hk t
    unfold dget valueAt at ih ⊢
    rw [List.find?_cons, List.find?_cons, eqv_s ⟨h2, h2'⟩ hk, h1]
    by_cases c : skey p.1 = skey k
    · rw [decide_eq_true c]
      exact ⟨x.2, vv, rfl, h3, h4⟩
    · rw [decide_eq_false c]
      exact ih
theorem put_S {β : List Addr} {k : PyData} {vv : V} {v : Value} {w : W} (hk : keyOk 8 k = true ∧ isTupD k = false) (hv : RelV vv v) (hw : RepW (kx X) β F vv w) {xs : List (L2.Key × Value)} {kvs : List (PyData × W)} (r : Paired (EnS X β F) xs kvs) :
    Paired (EnS X β F) (stored xs (skey k) v) (dput kvs k w) := by
  have hs : (xs.any fun kv => decide (kv.1 = skey k)) = dhas kvs k := by
    unfold dhas
    induction r with
    | nil => rfl
    | cons h _ ih => rw [List.any_cons, List.any_cons, ih, eqv_s h.1.2 hk, h.1.1]
  unfold stored dput
  rw [hs]
  cases e : dhas kvs k with
  | true =>
    simp only [if_true]
    clear hs e
    induction r with
    | nil => exact .nil
    | @cons x p xs kvs h t ih =>
      rw [List.map_cons, List.map_cons]
      refine .cons ?_ ih
      obtain ⟨⟨h1, h2, h2'⟩, h3⟩ := h
      rw [eqv_s ⟨h2, h2'⟩ hk, h1]
      by_cases c : skey p.1 = skey k
      · rw [if_pos c, decide_eq_true c, if_pos rfl]
        exact ⟨⟨rfl, h2, h2'⟩, vv, hv, hw⟩
      · rw [if_neg c, decide_eq_false c, if_neg Bool.false_ne_true]
        exact ⟨⟨h1, h2, h2'⟩, h3⟩
  | false =>
    have app : ∀ {xs : List (L2.Key × Value)} {kvs : List (PyData × W)}, Paired (EnS X β F) xs kvs → Paired (EnS X β F) (xs ++ [(skey k, v)]) (kvs ++ [(k, w)]) := by
      intro xs kvs r
      induction r with
      | nil => exact .cons ⟨⟨rfl, hk.1, hk.2⟩, vv, hv, hw⟩ .nil
      | cons h _ ih => exact .cons h ih
    simpa using app r
end
end FO

set_option Elab.async false
set_option linter.all false
set_option maxHeartbeats 1000000
set_option maxRecDepth 10000
namespace FO
open PySem PySem.Spec L2
section
variable {X : Cx} {pins : List (Addr × Obj)} {σ : St} {F H : Hp} {s : Shared} {β : List Addr} {a : Addr} {o : Obj} {kvs : List (PyData × W)} {k : PyData} {y : V} {u : Value} {A : Around} {E : Value → Shared → Prop}
theorem xo_ok {P : Program} {w : World} {H : Hp} {h : Heap} {a : Addr} {o : Obj} (e : h.get? a = some o) : ObjOk P w H h a (xO a o) := ⟨e, ⟨o, e⟩, fun _ _ q k => k _ q⟩
theorem kOk_of {K : Kw} (d : DctOk K β F a o kvs) (h : kOk kvs k = true) : keyOk 8 k = true ∧ ∀ p ∈ kvs, isTupD p.1 = isTupD k := by
  unfold kOk at h
  obtain ⟨h1, h2⟩ := Bool.and_eq_true_iff.mp h
  refine ⟨h1, fun p hp => ?_⟩
  cases kvs with
  | nil => cases hp
  | cons q r =>
    have e : isTupD q.1 = isTupD k := eq_of_beq h2
    rw [← e]
    exact d.keys.one _ (List.mem_map.mpr ⟨p, hp, rfl⟩) _ (List.mem_map.mpr ⟨q, List.mem_cons_self, rfl⟩)
theorem szk {n : Nat} (h : n ≤ 1000000) : n ≤ sizeLine := Nat.le_trans h szl
theorem dput_len (kvs : List (PyData × W)) (k : PyData) (w : W) : (dput kvs k w).length ≤ kvs.length + 1 := by
  unfold dput
  split
  · rw [List.length_map]; omega
  · simp
theorem dput_keys (kvs : List (PyData × W)) (k : PyData) (w : W) : ∀ q ∈ (dput kvs k w).map (·.1), q = k ∨ q ∈ kvs.map (·.1) := by
  intro q hq
  unfold dput at hq
  split at hq
  · rw [List.map_map] at hq
    obtain ⟨p, hp, rfl⟩ := List.mem_map.mp hq
    refine .inr (List.mem_map.mpr ⟨p, hp, ?_⟩)
    show p.1 = (if PyData.eqv p.1 k = true then (p.1, w) else p).1
    split <;> rfl
  · rw [List.map_append] at hq
    rcases List.mem_append.mp hq with z | z
    · exact .inr z
    · exact .inl (by simpa using z)
theorem dc_getItem {w : W} {Q : Value → Shared → Prop} (hu : A.units + 9 < cLine) (I : Inv X pins σ H s) (sub : Sub F H) (h : H a = some (xO a o)) (d : DctOk (kx X) β F a o kvs) (hk : kOk kvs k = true) (kd : Dp X.K F y k) (ry : RelV y u) (hv : dget kvs k = some w)
    (hq : ∀ u' s' v, Inv X pins σ H s' → RelV v u' → RepW (kx X) β F v w → Q u' s') : wpAny (model X.prog X.w) A (getItem (.ref a) u) Q E s := by
  obtain ⟨k1, k2⟩ := kOk_of d hk
  cases ht : isTupD k with
  | true =>
    obtain ⟨xs, dd, r⟩ := dc_H I sub h d fun p hp => (k2 p hp).trans ht
    have q := at_H k1 r d.keys.ok
    rw [hv] at q
    obtain ⟨p, vv, q1, q2, q3⟩ := q
    obtain ⟨n1, n2⟩ := key_is I sub 8 k1 kd ry
    cases k with
    | tuple ds =>
      cases kd
      cases ry
      exact wpAny_getItem_heap (knd := nestedKind X.prog X.w) (by show A.in1.units + 8 < cLine; rw [Around.in1_units]; omega) ⟨n1, n2⟩ dd q1 (hq _ _ vv (I.tok _) q2 q3)
    | _ => cases ht
  | false =>
    obtain ⟨vs, dd, r⟩ := dc_S I h d fun p hp => (k2 p hp).trans ht
    have q := at_S ⟨k1, ht⟩ r
    rw [hv] at q
    obtain ⟨v, vv, q1, q2, q3⟩ := q
    have e := rel_s k1 ht kd
    subst e
    exact wpAny_getItem_of (kV_is ry) dd.mapOf q1 (hq _ _ vv (I.tok _) q2 q3)
theorem dhas_some : dhas kvs k = (dget kvs k).isSome := by
  unfold dget dhas
  rw [Option.isSome_map, Bool.eq_iff_iff, List.find?_isSome, List.any_eq_true]
theorem dc_in {Q : Value → Shared → Prop} (hu : A.units + 9 < cLine) (I : Inv X pins σ H s) (sub : Sub F H) (h : H a = some (xO a o)) (d : DctOk (kx X) β F a o kvs) (hk : kOk kvs k = true) (kd : Dp X.K F y k) (ry : RelV y u)
    (hq : ∀ s', Inv X pins σ H s' → Q (.bool (dhas kvs k)) s') : wpAny (model X.prog X.w) A (compareOp .In u (.ref a)) Q E s := by
  obtain ⟨k1, k2⟩ := kOk_of d hk
  cases ht : isTupD k with
  | true =>
    obtain ⟨xs, dd, r⟩ := dc_H I sub h d fun p hp => (k2 p hp).trans ht
    have q := at_H k1 r d.keys.ok
    have hb : (atKey xs (nkey 8 k)).isSome = dhas kvs k := by
      rw [dhas_some]
      cases e : dget kvs k with
      | some w => rw [e] at q; obtain ⟨p, vv, q1, _⟩ := q; rw [q1]; rfl
      | none => rw [e] at q; rw [q]; rfl
    obtain ⟨n1, n2⟩ := key_is I sub 8 k1 kd ry
    cases k with
    | tuple ds =>
      cases kd
      cases ry
      refine wpAny_in_heap (knd := nestedKind X.prog X.w) (by show A.in1.units + 8 < cLine; rw [Around.in1_units]; omega) ⟨n1, n2⟩ d.sys dd ?_
      rw [hb]; exact hq _ (I.tok _)
    | _ => cases ht
  | false =>
    obtain ⟨vs, dd, r⟩ := dc_S I h d fun p hp => (k2 p hp).trans ht
    have q := at_S ⟨k1, ht⟩ r
    have hb : (valueAt vs (skey k)).isSome = dhas kvs k := by
      rw [dhas_some]
      cases e : dget kvs k with
      | some w => rw [e] at q; obtain ⟨p, vv, q1, _⟩ := q; rw [q1]; rfl
      | none => rw [e] at q; rw [q]; rfl
    have e := rel_s k1 ht kd
    subst e
    refine wpAny_in_of (kV_is ry) d.sys dd.mapOf ?_
    rw [hb]; exact hq _ (I.tok _)
theorem dc_notIn {Q : Value → Shared → Prop} (hu : A.units + 9 < cLine) (I : Inv X pins σ H s) (sub : Sub F H) (h : H a = some (xO a o)) (d : DctOk (kx X) β F a o kvs) (hk : kOk kvs k = true) (kd : Dp X.K F y k) (ry : RelV y u)
    (hq : ∀ s', Inv X pins σ H s' → Q (.bool (!dhas kvs k)) s') : wpAny (model X.prog X.w) A (compareOp .NotIn u (.ref a)) Q E s := by
  obtain ⟨k1, k2⟩ := kOk_of d hk
  cases ht : isTupD k with
  | true =>
    obtain ⟨xs, dd, r⟩ := dc_H I sub h d fun p hp => (k2 p hp).trans ht
    have q := at_H k1 r d.keys.ok
    have hb : (atKey xs (nkey 8 k)).isSome = dhas kvs k := by
      rw [dhas_some]
      cases e : dget kvs k with
      | some w => rw [e] at q; obtain ⟨p, vv, q1, _⟩ := q; rw [q1]; rfl
      | none => rw [e] at q; rw [q]; rfl
    obtain ⟨n1, n2⟩ := key_is I sub 8 k1 kd ry
    cases k with
    | tuple ds =>
      cases kd
      cases ry
      refine PyProof.Rows.wpAny_notIn_heap (knd := nestedKind X.prog X.w) (by show A.in1.units + 8 < cLine; rw [Around.in1_units]; omega) ⟨n1, n2⟩ d.sys dd ?_
      rw [hb]; exact hq _ (I.tok _)
    | _ => cases ht
  | false =>
    obtain ⟨vs, dd, r⟩ := dc_S I h d fun p hp => (k2 p hp).trans ht
    have q := at_S ⟨k1, ht⟩ r
    have hb : (valueAt vs (skey k)).isSome = dhas kvs k := by
      rw [dhas_some]
      cases e : dget kvs k with
      | some w => rw [e] at q; obtain ⟨p, vv, q1, _⟩ := q; rw [q1]; rfl
      | none => rw [e] at q; rw [q]; rfl
    have e := rel_s k1 ht kd
    subst e
    refine wpAny_notIn_of (kV_is ry) d.sys dd.mapOf ?_
    rw [hb]; exact hq _ (I.tok _)
theorem dput_one {K : Kw} {w : W} (d : DctOk K β F a o kvs) (hk : kOk kvs k = true) : (∀ q ∈ (dput kvs k w).map (·.1), keyOk 8 q = true) ∧ ∀ q ∈ (dput kvs k w).map (·.1), ∀ l ∈ (dput kvs k w).map (·.1), isTupD q = isTupD l := by
  obtain ⟨k1, k2⟩ := kOk_of d hk
  have t : ∀ q ∈ (dput kvs k w).map (·.1), isTupD q = isTupD k := fun q hq => by
    rcases dput_keys kvs k w q hq with rfl | z
    · rfl
    · obtain ⟨p, hp, rfl⟩ := List.mem_map.mp z
      exact k2 p hp
  refine ⟨fun q hq => ?_, fun q hq l hl => (t q hq).trans (t l hl).symm⟩
  rcases dput_keys kvs k w q hq with rfl | z
  · exact k1
  · exact d.keys.ok q z
theorem dc_setItem {w : W} {v : V} {r : Value} {Q : Unit → Shared → Prop} (hu : A.units + 9 < cLine) (I : Inv X pins σ H s) (sub : Sub F H) (h : H a = some (xO a o)) (d : DctOk (kx X) β F a o kvs) (few : kvs.length < 1000000) (hk : kOk kvs k = true) (kd : Dp X.K F y k) (ry : RelV y u) (rv : RelV v r) (rw' : RepW (kx X) β F v w)
    (hq : ∀ s' o', Inv X pins σ (upd H a (xO a o')) s' → DctOk (kx X) β F a o' (dput kvs k w) → Q () s') : wpAny (model X.prog X.w) A (setItem (.ref a) u r) Q E s := by
  obtain ⟨k1, k2⟩ := kOk_of d hk
  have hl : (dput kvs k w).length ≤ 1000000 := by have := dput_len kvs k w; omega
  obtain ⟨p1, p2⟩ := dput_one (w := w) d hk
  have mu : Mut (H a) := by rw [h]; exact True.intro
  cases ht : isTupD k with
  | true =>
    obtain ⟨xs, dd, r'⟩ := dc_H I sub h d fun p hp => (k2 p hp).trans ht
    obtain ⟨n1, n2⟩ := key_is I sub 8 k1 kd ry
    cases k with
    | tuple ds =>
      cases kd with
      | @tup t vs _ kq ks =>
        cases ry
        refine wpAny_setItem_heap (knd := nestedKind X.prog X.w) (hsz := by rw [paired_len r']; exact szk d.few) (by show A.in1.units + 8 < cLine; rw [Around.in1_units]; omega) ⟨n1, n2⟩ dd fun h' dd' hs => ?_
        obtain ⟨o', g, d'⟩ := dc_back d.sys dd' (put_H k1 (.tup kq ks) rv rw' r' d.keys.ok) hl p1 p2
        exact hq _ o' (d_write I mu hs ⟨o', g⟩ (xo_ok g)) d'
    | _ => cases ht
  | false =>
    obtain ⟨vs, dd, r'⟩ := dc_S I h d fun p hp => (k2 p hp).trans ht
    have e := rel_s k1 ht kd
    subst e
    refine wpAny_setItem_pairs (hsz := by rw [paired_len r']; exact szk d.few) (kV_is ry) dd fun h' dd' hs => ?_
    obtain ⟨o', g, d'⟩ := dc_backS d.sys dd' (put_S ⟨k1, ht⟩ rv rw' r') hl
    exact hq _ o' (d_write I mu hs ⟨o', g⟩ (xo_ok g)) d'
theorem dc_get1 {Q : Value → Shared → Prop} (hu : A.units + 9 < cLine) (I : Inv X pins σ H s) (sub : Sub F H) (h : H a = some (xO a o)) (d : DctOk (kx X) β F a o kvs) (hk : kOk kvs k = true) (kd : Dp X.K F y k) (ry : RelV y u)
    (hq : ∀ u' s' v, Inv X pins σ H s' → RelV v u' → RepW (kx X) β F v ((dget kvs k).getD (.d .none)) → Q u' s') : wpAny (model X.prog X.w) A (call (.builtin "dict.get") [.ref a, u]) Q E s := by
  obtain ⟨k1, k2⟩ := kOk_of d hk
  cases ht : isTupD k with
  | true =>
    obtain ⟨xs, dd, r⟩ := dc_H I sub h d fun p hp => (k2 p hp).trans ht
    have q := at_H k1 r d.keys.ok
    obtain ⟨n1, n2⟩ := key_is I sub 8 k1 kd ry
    have fin : ∃ vv, RelV vv (((atKey xs (nkey 8 k)).map (·.2)).getD .none) ∧ RepW (kx X) β F vv ((dget kvs k).getD (.d .none)) := by
      cases e : dget kvs k with
      | some w => rw [e] at q; obtain ⟨p, vv, q1, q2, q3⟩ := q; rw [q1]; exact ⟨vv, q2, q3⟩
      | none => rw [e] at q; rw [q]; exact ⟨.non, rfl, Dp.non⟩
    obtain ⟨vv, f1, f2⟩ := fin
    cases k with
    | tuple ds =>
      cases kd
      cases ry
      exact call_meetsIn PySem.F.slot_dict_get dd.typeIs PySem.F.entry_dict_get (PySem.F.args_dict_get_2 _ _) (meetsH_dict_get (nestedKind X.prog X.w) a _ d.sys) ⟨by show A.in1.units + 8 < cLine; rw [Around.in1_units]; omega, _, xs, ⟨n1, n2⟩, dd, hq _ _ vv (I.tok _) f1 f2⟩
    | _ => cases ht
  | false =>
    obtain ⟨vs, dd, r⟩ := dc_S I h d fun p hp => (k2 p hp).trans ht
    have q := at_S ⟨k1, ht⟩ r
    have e := rel_s k1 ht kd
    subst e
    have fin : ∃ vv, RelV vv ((valueAt vs (skey k)).getD .none) ∧ RepW (kx X) β F vv ((dget kvs k).getD (.d .none)) := by
      cases e : dget kvs k with
      | some w => rw [e] at q; obtain ⟨p, vv, q1, q2, q3⟩ := q; rw [q1]; exact ⟨vv, q2, q3⟩
      | none => rw [e] at q; rw [q]; exact ⟨.non, rfl, Dp.non⟩
    obtain ⟨vv, f1, f2⟩ := fin
    exact call_meetsIn PySem.F.slot_dict_get dd.typeIs PySem.F.entry_dict_get (PySem.F.args_dict_get_2 _ _) (meets_dict_get (mixKind X.prog X.w) a (kV_is ry) d.sys) ⟨_, dd.mapOf, hq _ _ vv (I.tok _) f1 f2⟩
theorem dc_get2 {x : V} {r0 : Value} {z : W} {Q : Value → Shared → Prop} (hu : A.units + 9 < cLine) (I : Inv X pins σ H s) (sub : Sub F H) (h : H a = some (xO a o)) (d : DctOk (kx X) β F a o kvs) (hk : kOk kvs k = true) (kd : Dp X.K F y k) (ry : RelV y u) (rx : RelV x r0) (rz : RepW (kx X) β F x z)
    (hq : ∀ u' s' v, Inv X pins σ H s' → RelV v u' → RepW (kx X) β F v ((dget kvs k).getD z) → Q u' s') : wpAny (model X.prog X.w) A (call (.builtin "dict.get") [.ref a, u, r0]) Q E s := by
  obtain ⟨k1, k2⟩ := kOk_of d hk
  cases ht : isTupD k with
  | true =>
    obtain ⟨xs, dd, r⟩ := dc_H I sub h d fun p hp => (k2 p hp).trans ht
    have q := at_H k1 r d.keys.ok
    obtain ⟨n1, n2⟩ := key_is I sub 8 k1 kd ry
    have fin : ∃ vv, RelV vv (((atKey xs (nkey 8 k)).map (·.2)).getD r0) ∧ RepW (kx X) β F vv ((dget kvs k).getD z) := by
      cases e : dget kvs k with
      | some w => rw [e] at q; obtain ⟨p, vv, q1, q2, q3⟩ := q; rw [q1]; exact ⟨vv, q2, q3⟩
      | none => rw [e] at q; rw [q]; exact ⟨x, rx, rz⟩
    obtain ⟨vv, f1, f2⟩ := fin
    cases k with
    | tuple ds =>
      cases kd
      cases ry
      exact call_meetsIn PySem.F.slot_dict_get dd.typeIs PySem.F.entry_dict_get (PySem.F.args_dict_get_3 _ _ _) (meetsH_dict_get_default (nestedKind X.prog X.w) a _ d.sys r0) ⟨by show A.in1.units + 8 < cLine; rw [Around.in1_units]; omega, _, xs, ⟨n1, n2⟩, dd, hq _ _ vv (I.tok _) f1 f2⟩
    | _ => cases ht
  | false =>
    obtain ⟨vs, dd, r⟩ := dc_S I h d fun p hp => (k2 p hp).trans ht
    have q := at_S ⟨k1, ht⟩ r
    have e := rel_s k1 ht kd
    subst e
    have fin : ∃ vv, RelV vv ((valueAt vs (skey k)).getD r0) ∧ RepW (kx X) β F vv ((dget kvs k).getD z) := by
      cases e : dget kvs k with
      | some w => rw [e] at q; obtain ⟨p, vv, q1, q2, q3⟩ := q; rw [q1]; exact ⟨vv, q2, q3⟩
      | none => rw [e] at q; rw [q]; exact ⟨x, rx, rz⟩
    obtain ⟨vv, f1, f2⟩ := fin
    exact call_meetsIn PySem.F.slot_dict_get dd.typeIs PySem.F.entry_dict_get (PySem.F.args_dict_get_3 _ _ _) (meets_dict_get_default (mixKind X.prog X.w) a (kV_is ry) d.sys r0) ⟨_, dd.mapOf, hq _ _ vv (I.tok _) f1 f2⟩
theorem dput_new {w : W} (h : dget kvs k = none) : dput kvs k w = kvs ++ [(k, w)] := by
  unfold dput
  rw [dhas_some, h]; rfl
theorem dc_setd {x : V} {r0 : Value} {z : W} {Q : Value → Shared → Prop} (hu : A.units + 9 < cLine) (I : Inv X pins σ H s) (sub : Sub F H) (h : H a = some (xO a o)) (d : DctOk (kx X) β F a o kvs) (few : kvs.length < 1000000) (hk : kOk kvs k = true) (kd : Dp X.K F y k) (ry : RelV y u) (rx : RelV x r0) (rz : RepW (kx X) β F x z)
    (h1 : ∀ w, dget kvs k = some w → ∀ u' s' v, Inv X pins σ H s' → RelV v u' → RepW (kx X) β F v w → Q u' s')
    (h2 : dget kvs k = none → ∀ s' o', Inv X pins σ (upd H a (xO a o')) s' → DctOk (kx X) β F a o' (kvs ++ [(k, z)]) → Q r0 s') : wpAny (model X.prog X.w) A (call (.builtin "dict.setdefault") [.ref a, u, r0]) Q E s := by
  obtain ⟨k1, k2⟩ := kOk_of d hk
  have hl : (dput kvs k z).length ≤ 1000000 := by have := dput_len kvs k z; omega
  obtain ⟨p1, p2⟩ := dput_one (w := z) d hk
  have mu : Mut (H a) := by rw [h]; exact True.intro
  cases ht : isTupD k with
  | true =>
    obtain ⟨xs, dd, r⟩ := dc_H I sub h d fun p hp => (k2 p hp).trans ht
    have q := at_H k1 r d.keys.ok
    obtain ⟨n1, n2⟩ := key_is I sub 8 k1 kd ry
    cases k with
    | tuple ds =>
      cases kd with
      | @tup t vs _ kq ks =>
        cases ry
        refine call_setdefault_heap (knd := nestedKind X.prog X.w) (hsz := by rw [paired_len r]; exact szk d.few) (by show A.in1.units + 8 < cLine; rw [Around.in1_units]; omega) ⟨n1, n2⟩ d.sys dd (fun p hp => ?_) fun hn h' dd' hs => ?_
        · cases e : dget kvs (.tuple ds) with
          | some w =>
            rw [e] at q
            obtain ⟨p', vv, q1, q2, q3⟩ := q
            rw [hp] at q1
            cases q1
            exact h1 w e _ _ vv (I.tok _) q2 q3
          | none => rw [e] at q; rw [hp] at q; cases q
        · cases e : dget kvs (.tuple ds) with
          | some w =>
            rw [e] at q
            obtain ⟨p', vv, q1, _⟩ := q
            rw [hn] at q1
            cases q1
          | none =>
            obtain ⟨o', g, d'⟩ := dc_back d.sys dd' (put_H k1 (.tup kq ks) rx rz r d.keys.ok) hl p1 p2
            rw [dput_new e] at d'
            exact h2 e _ o' (d_write I mu hs ⟨o', g⟩ (xo_ok g)) d'
    | _ => cases ht
  | false =>
    obtain ⟨vs, dd, r⟩ := dc_S I h d fun p hp => (k2 p hp).trans ht
    have q := at_S ⟨k1, ht⟩ r
    have e := rel_s k1 ht kd
    subst e
    refine call_meetsIn PySem.F.slot_dict_setdefault dd.typeIs PySem.F.entry_dict_setdefault (PySem.F.args_dict_setdefault_3 _ _ _) (kt_meets_setdefault (mixKind X.prog X.w) a (kV_is ry) d.sys r0) ⟨vs, dd, by rw [paired_len r]; exact szk d.few, fun v hv => ?_, fun hn h' dd' hs => ?_⟩
    · cases e : dget kvs k with
      | some w =>
        rw [e] at q
        obtain ⟨v', vv, q1, q2, q3⟩ := q
        rw [hv] at q1
        cases q1
        exact h1 w e _ _ vv (I.tok _) q2 q3
      | none => rw [e] at q; rw [hv] at q; cases q
    · cases e : dget kvs k with
      | some w =>
        rw [e] at q
        obtain ⟨v', vv, q1, _⟩ := q
        rw [hn] at q1
        cases q1
      | none =>
        obtain ⟨o', g, d'⟩ := dc_backS d.sys dd' (put_S ⟨k1, ht⟩ rx rz r) hl
        rw [dput_new e] at d'
        exact h2 e _ o' (d_write I mu hs ⟨o', g⟩ (xo_ok g)) d'
end
end FO

set_option Elab.async false
set_option linter.all false
set_option maxHeartbeats 1000000
set_option maxRecDepth 10000
namespace FO
open PySem L2
section
variable {X : Cx} {wx : Wx} {P : Pg} {K : Kw}
/-! ### a[i] -/
theorem sub_tail {prog : Program} {w : World} {A : Around} {E : Value → Shared → Prop} {s : Shared} {value slice : Expr} {o i : Value} {T id : String} {Q : Value → Shared → Prop} (hT : s.TypeIs o T) (hl : typeLookup (.type T) "__getitem__" = pure (some (.builtin id)))
    (hs : subscripted slice false o i = operate [o, i] (getItem o i)) (h : wpAny (model prog w) A (getItem o i) Q E s) : wpAny (model prog w) A (PyProof.Rows.subscriptTail value slice o i) Q E s := by
  have z : wpAny (model prog w) A (subscripted slice false o i) (fun r s' => wpAny (model prog w) A (letTemporaryGo value o r >>= fun _ => pure r) Q E s') E s := by
    rw [hs]
    refine wpAny_operating (wpAny_mono h (fun r s' q => ?_) fun _ _ q => q)
    exact wpAny_bind (wpAny_letTemporaryGo (wpAny_pure q))
  unfold PyProof.Rows.subscriptTail
  refine wpAny_bind ?_
  rw [getitemInPython_of_ne hT.not_modules]
  refine wpAny_bind (wpAny_specialOf hT hl ?_)
  first
    | exact wpAny_pure (wpAny_bind z)
    | exact wpAny_bind (wpAny_pure (wpAny_bind z))
/-- a key of a dict -/
def rIxK (X : Cx) : R2 := fun x y H Q => ∃ (β : List Addr) (F : Hp) (a : Addr) (o : Obj) (kvs : List (PyData × W)) (k : PyData) (w : W), x = .ref a ∧ Sub F H ∧ H a = some (xO a o) ∧ DctOk (kx X) β F a o kvs ∧ kOk kvs k = true ∧ Dp X.K F y k ∧ dget kvs k = some w ∧ ∀ v, RepW (kx X) β F v w → Q v H
theorem dc_type {pins : List (Addr × Obj)} {σ : St} {H F : Hp} {s : Shared} {β : List Addr} {a : Addr} {o : Obj} {kvs : List (PyData × W)} (I : Inv X pins σ H s) (h : H a = some (xO a o)) (d : DctOk (kx X) β F a o kvs) : s.TypeIs (.ref a) "dict" := ⟨o, xo_get I h, d.ex.1⟩
def rIxE (X : Cx) : R2 := fun x y H Q => rD2 X.K ixD x y H Q ∨ rIxL X.K x y H Q ∨ rIxT X.K x y H Q ∨ rIxK X x y H Q
theorem ix_E (hu : X.A.units + 65 < cLine) : IxR X (rIxE X) := by
  intro value slice pins s σ H x y v u Q I rx ry h hs
  rcases h with h | h | h | h
  · exact ix_D value slice pins s σ H x y v u Q I rx ry h hs
  · exact ix_list value slice pins s σ H x y v u Q I rx ry h hs
  · exact ix_tup value slice pins s σ H x y v u Q I rx ry h hs
  · obtain ⟨β, F, a, o, kvs, k, w, rfl, sub, hh, d, hk, kd, hg, q⟩ := h
    cases rx
    exact sub_tail (dc_type I hh d) PySem.F.slot_dict_getitem.lookup hs (dc_getItem (by omega) I sub hh d hk kd ry hg fun u' s' vv I' r1 r2 => ⟨vv, H, I', r1, q vv r2⟩)
theorem atI_pair {α γ : Type} {R : α → γ → Prop} {l : List α} {m : List γ} {i : Int} {b : γ} (h : Paired R l m) (e : atI m i = some b) : ∃ a, atI l i = some a ∧ R a b := by
  unfold atI at e ⊢
  rw [paired_len h]
  cases q : ixN m.length i with
  | none => rw [q] at e; cases e
  | some j =>
    rw [q] at e
    exact paired_get h e
theorem Pw.liftW {Z : Bs} {β : List Addr} {F H : Hp} {ρ : Rho} {S : Sto} {σ : St} {ex : Nat → Hp → Prop} {o : Option W} {k : W → List Addr → Hp → Sto → Hp → Prop} (h : Pw K Z ρ σ ex β F H (Res.lift S o) k) (r : Rl K Z β F ρ S σ H) : ∃ w, o = some w ∧ k w β F S H := by
  cases o with
  | none => exact h.elim
  | some w => exact ⟨w, rfl, Pw.here (a := w) h r⟩
theorem ix_DD {a b : E} {σ : St} {H : Hp} {Q : VK} (h : tE (kx X) wx P (.ix a b) σ H Q) : tOp (rIxE X) (tA (kx X) wx P a) (tE (kx X) wx P b) σ H Q := by
  obtain ⟨Z, β, F, ρ, S, rl, h⟩ := h
  simp only [ev] at h
  refine ⟨Z, β, F, ρ, S, rl, h.bind.mono fun w β1 F1 S1 H1 u1 rl1 ⟨_, _, h1⟩ x rx => ?_⟩
  refine ⟨Z, β1, F1, ρ, S1, rl1, h1.bind.mono fun u β2 F2 S2 H2 u2 rl2 ⟨_, _, h2⟩ y ry => ?_⟩
  have rx' := repA_up u2 rx
  unfold ixW at h2
  cases u with
  | ref n => cases w <;> exact h2.elim
  | exc c => cases w <;> exact h2.elim
  | d dy =>
    cases w with
    | exc c => exact h2.elim
    | d dx =>
      obtain ⟨r, er, k⟩ := Pw.lift h2 rl2
      exact .inl ⟨F2, dx, dy, r, rl2.fh, repA_ra rx' rl2 rfl, ra_of ry rl2.fh, er, fun v F' H' n dp => k F' H' n v dp⟩
    | ref n =>
      rcases rx' with ⟨ad, ha, rfl⟩ | ⟨_, _, _, _, e, _⟩
      case inr => cases e
      dsimp only at h2
      cases q : S2[n]? with
      | none => rw [q] at h2; exact h2.elim
      | some c =>
        rw [q] at h2
        cases c with
        | dead => exact h2.elim
        | ins c fs => exact h2.elim
        | lst xs =>
          cases dy with
          | int i =>
            cases (show Dp X.K F2 y (.int i) from ry)
            obtain ⟨r, er, k⟩ := Pw.lift h2 rl2
            obtain ⟨vs, k1, k2⟩ := rl2.st.cell n ad _ ha q
            obtain ⟨z, e1, e2⟩ := atI_dp k2 er
            exact .inr (.inl ⟨ad, vs, i, z, rfl, rfl, .inl (.inl k1), e1, k F2 H2 (Nw.refl rl2.fh) z e2⟩)
          | _ => exact h2.elim
        | lstW xs =>
          cases dy with
          | int i =>
            cases (show Dp X.K F2 y (.int i) from ry)
            obtain ⟨vs, k1, k2⟩ := rl2.st.cell n ad _ ha q
            obtain ⟨w', q2, k⟩ := Pw.liftW h2 rl2
            obtain ⟨z, e1, e2⟩ := atI_pair k2 q2
            exact .inr (.inl ⟨ad, vs, i, z, rfl, rfl, .inl (.inl k1), e1, k z e2⟩)
          | _ => exact h2.elim
        | tupW xs =>
          cases dy with
          | int i =>
            cases (show Dp X.K F2 y (.int i) from ry)
            obtain ⟨vs, k1, k2⟩ := rl2.st.cell n ad _ ha q
            obtain ⟨w', q2, k⟩ := Pw.liftW h2 rl2
            obtain ⟨z, e1, e2⟩ := atI_pair k2 q2
            exact .inr (.inr (.inl ⟨ad, vs, i, z, rfl, rfl, .inl (.inl k1), e1, k z e2⟩))
          | _ => exact h2.elim
        | dct kvs =>
          dsimp only at h2
          obtain ⟨o, k1, k2⟩ := rl2.st.cell n ad _ ha q
          by_cases hk : kOk kvs dy = true
          · rw [if_pos hk] at h2
            obtain ⟨w', q2, k⟩ := Pw.liftW h2 rl2
            exact .inr (.inr (.inr ⟨β2, F2, ad, o, kvs, dy, w', rfl, rl2.fh, k1, k2, hk, ry, q2, k⟩))
          · rw [if_neg hk] at h2; exact h2.elim
        | lck kvs =>
          dsimp only at h2
          obtain ⟨o, k1, _, k2⟩ := rl2.st.cell n ad _ ha q
          by_cases hk : kOk kvs dy = true
          · rw [if_pos hk] at h2
            obtain ⟨w', q2, k⟩ := Pw.liftW h2 rl2
            exact .inr (.inr (.inr ⟨β2, F2, ad, o, kvs, dy, w', rfl, rl2.fh, k1, k2, hk, ry, q2, k⟩))
          · rw [if_neg hk] at h2; exact h2.elim
/-! ### slices -/
def tO (K : Kw) (wx : Wx) (P : Pg) (e : E) : TO := fun σ H Q => ∃ Z β F ρ S, Rl K Z β F ρ S σ H ∧ Pw K Z ρ σ (fun c => wx c σ) β F H (ev P e ρ S) fun w _ _ _ H' => ∃ o, bndW e w = some o ∧ Q o H'
theorem po_no : PO X none (tO K wx P (.c .none)) := by
  refine ⟨fun pins s σ H Q I h => (po_none (X := X)).run pins s σ H Q I ?_⟩
  obtain ⟨Z, β, F, ρ, S, rl, h⟩ := h
  simp only [ev] at h
  obtain ⟨o, e, q⟩ := Pw.here h rl
  cases e
  exact q
theorem po_yes {e : Expr} {ie : E} (hn : ie ≠ .c .none) (h : PE X e (tE K wx P ie)) : PO X (some e) (tO K wx P ie) := by
  refine ⟨fun pins s σ H Q I q => (po_some h).run pins s σ H Q I ?_⟩
  obtain ⟨Z, β, F, ρ, S, rl, q⟩ := q
  refine ⟨Z, β, F, ρ, S, rl, q.mono fun w β1 F1 S1 H1 u1 rl1 ⟨o, eo, q1⟩ v rv => ?_⟩
  cases w with
  | ref n => exfalso; cases ie with
    | c y => cases y <;> cases eo
    | _ => cases eo
  | exc c => exfalso; cases ie with
    | c y => cases y <;> cases eo
    | _ => cases eo
  | d x =>
    cases x with
    | int i =>
      cases (show Dp K F1 v (.int i) from rv)
      have eo : bndW ie (.d (.int i)) = some o := eo
      have e2 : bndW ie (.d (.int i)) = some (some i) := by
        cases ie with
        | c y => cases y <;> rfl
        | _ => rfl
      rw [e2] at eo
      cases eo
      exact ⟨i, rfl, q1⟩
    | none =>
      exfalso
      cases ie with
      | c y =>
        cases y with
        | none => exact hn rfl
        | _ => cases eo
      | _ => cases eo
    | _ =>
      exfalso
      cases ie with
      | c y => cases y <;> cases eo
      | _ => cases eo
theorem Pw.opt {α : Type} {Z : Bs} {β : List Addr} {F H : Hp} {ρ : Rho} {S : Sto} {σ : St} {ex : Nat → Hp → Prop} {o : Option α} {f : α → Sto → Res W} {k : W → List Addr → Hp → Sto → Hp → Prop} (h : Pw K Z ρ σ ex β F H ((Res.lift S o).bind f) k) :
    ∃ a, o = some a ∧ Pw K Z ρ σ ex β F H (f a S) k := by
  cases o with
  | none => exact h.elim
  | some a => exact ⟨a, rfl, h⟩
theorem sl_DD {a lo hi : E} {σ : St} {H : Hp} {Q : VK} (h : tE K wx P (.sl a lo hi) σ H Q) : tSl (rSlD K) (tA K wx P a) (tO K wx P lo) (tO K wx P hi) σ H Q := by
  obtain ⟨Z, β, F, ρ, S, rl, h⟩ := h
  simp only [ev] at h
  refine ⟨Z, β, F, ρ, S, rl, h.bind.mono fun w β1 F1 S1 H1 u1 rl1 ⟨_, _, h1⟩ x rx => ?_⟩
  refine ⟨Z, β1, F1, ρ, S1, rl1, h1.bind.mono fun l β2 F2 S2 H2 u2 rl2 ⟨_, _, h2⟩ => ?_⟩
  obtain ⟨lo', e1, h3⟩ := h2.opt
  refine ⟨lo', e1, Z, β2, F2, ρ, S2, rl2, h3.bind.mono fun hw β3 F3 S3 H3 u3 rl3 ⟨_, _, h4⟩ => ?_⟩
  obtain ⟨hi', e2, h5⟩ := h4.opt
  refine ⟨hi', e2, ?_⟩
  obtain ⟨r, er, k⟩ := Pw.lift h5 rl3
  obtain ⟨d, e3, e4⟩ := Option.bind_eq_some_iff.mp er
  exact ⟨F3, d, r, rl3.fh, repA_ra (repA_up u3 (repA_up u2 rx)) rl3 e3, e4, fun v F' H' n dp => k F' H' n v dp⟩
/-! ### methods -/
def bmT : Bm → String
  | .index => "list"
  | .startswith => "str"
  | .count => "list"
  | .join => "str"
  | .split => "str"
theorem bmOk_ty {m : Bm} {F H : Hp} {x : V} {d : PyData} (sub : Sub F H) (h : Ra K F H x d) (e : bmOk m (some d) = some ()) : tyV K (bmT m) x H := by
  have l : bmOk .index (some d) = some () → tyV K "list" x H := fun e => by
    cases d with
    | list ds => obtain ⟨a, vs, rfl, h1, _⟩ := h; exact .inl ⟨rfl, vs, h1⟩
    | _ => cases e
  have t : bmOk .startswith (some d) = some () → tyV K "str" x H := fun e => by
    cases d with
    | str z => cases h; exact rfl
    | _ => cases e
  cases m with
  | index => exact l e
  | count => exact l (by cases d <;> first | exact e | cases e)
  | startswith => exact t e
  | join => exact t (by cases d <;> first | exact e | cases e)
  | split => exact t (by cases d <;> first | exact e | cases e)
theorem bm_DD {m : Bm} {o a : E} {σ : St} {H : Hp} {Q : VK} (h : tE K wx P (.bm m o a) σ H Q) : tBM K (bmT m) (rM1 K (bmD m)) (tA K wx P o) (tCons (tA K wx P a) tNil) σ H Q := by
  obtain ⟨Z, β, F, ρ, S, rl, h⟩ := h
  simp only [ev] at h
  refine ⟨Z, β, F, ρ, S, rl, h.bind.mono fun w β1 F1 S1 H1 u1 rl1 ⟨_, _, h1⟩ x rx => ?_⟩
  obtain ⟨_, e1, h2⟩ := h1.opt
  cases q : vw S1 w with
  | none => rw [q] at e1; cases m <;> cases e1
  | some d =>
    rw [q] at e1
    refine ⟨bmOk_ty rl1.fh (repA_ra rx rl1 q) e1, Z, β1, F1, ρ, S1, rl1, h2.bind.mono fun u β2 F2 S2 H2 u2 rl2 ⟨_, _, h3⟩ y ry => ?_⟩
    obtain ⟨r, er, k⟩ := Pw.lift h3 rl2
    obtain ⟨d', e', k1, k2, k3⟩ := bind2_of er
    exact ⟨F2, y, d', e', r, rfl, rl2.fh, repA_ra (repA_up u2 rx) rl2 k1, repA_ra ry rl2 k2, k3, fun v F' H' n dp => k F' H' n v dp⟩
/-! ### isinstance -/
theorem isi_DD {a : E} {t : Ty} {σ : St} {H : Hp} {Q : VK} (h : tE K wx P (.isi a t) σ H Q) : tCB (rIsD K t) (tCons (tA K wx P a) (tCons (tC (.ty (tyN t))) tNil)) σ H Q := by
  obtain ⟨Z, β, F, ρ, S, rl, h⟩ := h
  simp only [ev] at h
  refine ⟨Z, β, F, ρ, S, rl, (Pw.bind (f := fun w S => Res.lift S (((vw S w).bind fun x => (tyD x t).map PyData.bool).map W.d)) h).mono fun w β1 F1 S1 H1 u1 rl1 ⟨_, _, h1⟩ x rx => ?_⟩
  obtain ⟨r, er, k⟩ := Pw.lift h1 rl1
  obtain ⟨d, e1, e2⟩ := Option.bind_eq_some_iff.mp er
  obtain ⟨b, e3, rfl⟩ := map_of e2
  exact ⟨F1, x, d, b, rfl, rl1.fh, repA_ra rx rl1 e1, e3, k F1 H1 (Nw.refl rl1.fh) _ (Dp.bl b)⟩
/-! ### calls -/
def spF (K : Kw) (cls : Nat → Value) (g : List W → Sto → Res W) : Sp := fun vs H Q E => ∃ β F S ws, Sub F H ∧ StOk K β F S H ∧ RepWs K β F vs ws ∧ match g ws S with
  | .ok w S' => ∀ β' F' v H', Up β F H β' F' H' → Sub F' H' → StOk K β' F' S' H' → RepW K β' F' v w → Q v H'
  | .ex c S' => ∀ β' F' H', Up β F H β' F' H' → Sub F' H' → StOk K β' F' S' H' → E (cls c) none H'
  | .bad => False
theorem call_D {cls : Nat → Value} {Wc : WX} {f : Nat} {es : Es} {σ : St} {H : Hp} {Q : VK} (hw : ∀ c σ H, wx c σ H → Wc (cls c) none σ H) (h : tE K wx P (.call f es) σ H Q) : tCallS (spF K cls (P.fn f)) (WE Wc) (tEs K wx P es) σ H Q := by
  obtain ⟨Z, β, F, ρ, S, rl, h⟩ := h
  simp only [ev] at h
  refine ⟨Z, β, F, ρ, S, rl, h.bind.mono fun ws β1 F1 S1 H1 u1 rl1 ⟨_, _, h1⟩ vs rv => ⟨β1, F1, S1, ws, rl1.fh, rl1.st, rv, ?_⟩⟩
  cases q : P.fn f ws S1 with
  | bad => rw [q] at h1; exact h1
  | ok w S' => rw [q] at h1; exact fun β' F' v H' u s st r => h1 β' F' H' u (rl1.next u s st) v r
  | ex c S' => rw [q] at h1; exact fun β' F' H' u s st => hw _ _ _ (h1 β' F' H' u (rl1.next u s st))
theorem pe_callS0 {CX : CXT} {k : Nat} {f : Addr} {fd : FuncData} {ps : List Str} {sp : Sp} {Es : St → XK} {x : Str} {p pos : Pos} (F : FnOk X.prog X.w X.K X.mg X.base CX k f fd ps sp) (hr : Room k X.A) (hg : Gl X x) (hm : X.mg x = some (.ref f)) (hk : PySem.W.keepIn X.K (.ref f) = true) (hb : Binds X.K fd ps []) (hx : ∀ σ, PassesAt CX X σ (Es σ))
    (hdb : (x == ("__debug__" : Str)) = false) : PE X (.Call (.Name x p) [] [] pos) (tCallS sp Es tNil) := by
  refine ⟨fun pins s σ H Q I h => ?_⟩
  refine wpAny_Call_Name_kw (ld_glob I hg hm ?_ hdb)
  exact PySem.W.callWith_K0 I.kIn hk (run_fnS (us := []) F hr hb (hx σ) I .nil h)
/-! ### new cells -/
/-- a new list, not frozen yet -/
def tN (K : Kw) (wx : Wx) (P : Pg) (e : E) : TE := fun σ H Q => ∃ Z β F ρ S, Rl K Z β F ρ S σ H ∧ Pw K Z ρ σ (fun c => wx c σ) β F H (ev P e ρ S) fun w _ F' _ H' => ∃ xs, w = .d (.list xs) ∧ ∀ p vs, H' p = none → DpAll K F' vs xs → Q (.ref p) (upd H' p (.lst vs))
theorem newL_D {a : E} {σ : St} {H : Hp} {Q : VK} (h : tE K wx P (.newL a) σ H Q) : tN K wx P a σ H Q := by
  obtain ⟨Z, β, F, ρ, S, rl, h⟩ := h
  simp only [ev] at h
  refine ⟨Z, β, F, ρ, S, rl, h.bind.mono fun w β1 F1 S1 H1 u1 rl1 ⟨_, _, h1⟩ => ?_⟩
  cases w with
  | ref n => exact h1.elim
  | exc c => exact h1.elim
  | d x =>
    cases x with
    | list xs =>
      refine ⟨xs, rfl, fun p vs hp hd => ?_⟩
      obtain ⟨u, r, g⟩ := rl1.cell (c := .lst xs) (o := .lst vs) hp ⟨vs, upd_same, hd⟩
      exact h1 _ _ _ u r (.ref p) ⟨p, g, rfl⟩
    | _ => exact h1.elim
theorem newW_D {es : Es} {σ : St} {H : Hp} {Q : VK} (hl : ∀ ρ S ws S', evs P es ρ S = .ok ws S' → ws.length ≤ sizeLine) (h : tE K wx P (.newW es) σ H Q) : tLst (tEs K wx P es) σ H Q := by
  obtain ⟨Z, β, F, ρ, S, rl, h⟩ := h
  simp only [ev] at h
  refine ⟨Z, β, F, ρ, S, rl, ?_⟩
  cases q : evs P es ρ S with
  | bad => rw [q] at h; exact h
  | ex c S' => rw [q] at h; exact h
  | ok ws S' =>
    have hz := hl ρ S ws S' q
    rw [q] at h
    refine fun β1 F1 H1 u1 rl1 vs rv => ⟨by rw [paired_len rv]; exact hz, fun p hp => ?_⟩
    obtain ⟨u, r, g⟩ := rl1.cell (c := .lstW ws) (o := .lst vs) hp ⟨vs, upd_same, repWs_more rv⟩
    exact h _ _ _ (u1.trans u) r (.ref p) ⟨p, g, rfl⟩
theorem lst_N {es : Es} {σ : St} {H : Hp} {Q : VK} (h : tN K wx P (.lst es) σ H Q) : tLst (tEs K wx P es) σ H Q := by
  obtain ⟨Z, β, F, ρ, S, rl, h⟩ := h
  simp only [ev] at h
  refine ⟨Z, β, F, ρ, S, rl, h.bind.mono fun ws β1 F1 S1 H1 u1 rl1 ⟨_, _, h1⟩ vs rv => ?_⟩
  unfold mkLst at h1
  by_cases hz : Nat.ble ws.length lim = true
  · rw [if_pos hz] at h1
    have hlen : vs.length ≤ sizeLine := by rw [paired_len rv]; exact lim_le hz
    cases e1 : allD ws with
    | some ds =>
      rw [e1] at h1
      have hd := allD_dp rv e1
      obtain ⟨xs, ex, q⟩ := Pw.here (a := W.d (.list ds)) h1 rl1
      cases ex
      exact ⟨hlen, fun p hp => q p vs hp hd⟩
    | none =>
      rw [e1] at h1
      refine ⟨hlen, fun p hp => ?_⟩
      obtain ⟨u, r, g⟩ := rl1.cell (c := .lstW ws) (o := .lst vs) hp ⟨vs, upd_same, repWs_more rv⟩
      obtain ⟨xs, ex, q⟩ := h1 _ _ _ u r
      cases ex
  · rw [if_neg hz] at h1; exact h1.elim
theorem ife_N {t a b : E} {σ : St} {H : Hp} {Q : VK} (h : tN K wx P (.ife t a b) σ H Q) : tIf (tT K wx P t) (tN K wx P a) (tN K wx P b) σ H Q := by
  obtain ⟨Z, β, F, ρ, S, rl, h⟩ := h
  simp only [ev] at h
  refine ⟨Z, β, F, ρ, S, rl, h.truth.mono fun w β1 F1 S1 H1 u1 rl1 ⟨c, e, _, _, h1⟩ => ⟨c, e, ?_⟩⟩
  cases c with
  | true => rw [if_pos rfl] at h1 ⊢; exact ⟨Z, β1, F1, ρ, S1, rl1, h1⟩
  | false => rw [if_neg Bool.false_ne_true] at h1 ⊢; exact ⟨Z, β1, F1, ρ, S1, rl1, h1⟩
end
end FO

set_option Elab.async false
set_option linter.all false
set_option maxHeartbeats 1000000
set_option maxRecDepth 10000
namespace FO
open PySem L2
/-! ### a slot is set -/
section
variable {K : Kw} {Z : Bs} {β β' : List Addr} {F H F' H' : Hp} {ρ : Rho} {S : Sto} {σ : St} {v : V} {w : W} {i : Nat}
theorem Rl.set (r : Rl K Z β F ρ S σ H) (hi : i < ρ.length) (hw : RepW K β F v w) : Rl K Z β F (ρ.set i (.val w)) S (σ.set i (some v)) H := by
  refine ⟨by simp [r.len], r.fh, r.up, r.st, fun j u h => ?_, fun j xs h => ?_, fun j k xs ys a hjk h1 h2 h3 h4 => ?_⟩
  · by_cases c : i = j
    · subst c
      rw [List.getElem?_set_self hi] at h
      cases h
      exact ⟨v, List.getElem?_set_self (by rw [r.len]; exact hi), hw⟩
    · rw [List.getElem?_set_ne c] at h
      obtain ⟨z, e1, e2⟩ := r.val j u h
      exact ⟨z, by rw [List.getElem?_set_ne c]; exact e1, e2⟩
  · by_cases c : i = j
    · subst c
      rw [List.getElem?_set_self hi] at h
      cases h
    · rw [List.getElem?_set_ne c] at h
      obtain ⟨a, vs, e1, e2⟩ := r.own j xs h
      exact ⟨a, vs, by rw [List.getElem?_set_ne c]; exact e1, e2⟩
  · have cj : i ≠ j := fun c => by subst c; rw [List.getElem?_set_self hi] at h1; cases h1
    have ck : i ≠ k := fun c => by subst c; rw [List.getElem?_set_self hi] at h2; cases h2
    rw [List.getElem?_set_ne cj] at h1 h3
    rw [List.getElem?_set_ne ck] at h2 h4
    exact r.dist j k xs ys a hjk h1 h2 h3 h4
/-- the object at D, which nothing names, changes -/
theorem Rl.extra {D : Addr} {o : HO} (r : Rl K Z β F ρ S σ H) (hb : D ∉ β) (hF : F D = none) (hZ : Z.H D = none) (hn : ∀ (j : Nat) (xs : List PyData), ρ[j]? = some (.own xs) → σ[j]? ≠ some (some (.ref D))) : Rl K Z β F ρ S σ (upd H D o) := by
  have ne : ∀ {a : Addr}, a ≠ D → upd H D o a = H a := fun h => upd_ne h
  refine ⟨r.len, fun a u e => ?_, ⟨r.up.bb, r.up.ff, r.up.nf, fun a u e n => ?_, fun a u e => ?_⟩, ⟨r.st.len, r.st.nd, r.st.out, fun n a c h1 h2 => ?_⟩, r.val, fun j xs h => ?_, r.dist⟩
  · rw [ne (fun z => by rw [z, hF] at e; cases e)]; exact r.fh a u e
  · rw [ne (fun z => by rw [z, hZ] at e; cases e)]; exact r.up.hh a u e n
  · rw [ne (fun z => by rw [z, hZ] at e; cases e)]; exact r.up.tr a u e
  · have hne : a ≠ D := fun z => hb (z ▸ List.mem_of_getElem? h1)
    exact (r.st.cell n a c h1 h2).mono (Sub.refl F) (fun _ _ e => e) fun u e => by rw [ne hne]; exact e
  · obtain ⟨a, vs, e1, e2, e3⟩ := r.own j xs h
    have hne : a ≠ D := fun z => hn j xs h (by rw [e1, z])
    exact ⟨a, vs, e1, by rw [ne hne]; exact e2, e3⟩
end
/-! ### targets -/
mutual
inductive SetT (K : PySem.W.Frag) (F : Hp) : Tg → V → PyData → St → St → Prop
  | nm {i : Nat} {v : V} {d : PyData} {σ : St} : Dp K F v d → SetT K F (.nm i) v d σ (σ.set i (some v))
  | tp {ts : Tgs} {a : Addr} {vs : List V} {ds : List PyData} {σ σ' : St} : SetTs K F ts vs ds σ σ' → SetT K F (.tp ts) (.ref a) (.tuple ds) σ σ'
inductive SetTs (K : PySem.W.Frag) (F : Hp) : Tgs → List V → List PyData → St → St → Prop
  | nil {σ : St} : SetTs K F .nil [] [] σ σ
  | cons {t : Tg} {ts : Tgs} {v : V} {vs : List V} {d : PyData} {ds : List PyData} {σ σ1 σ2 : St} : SetT K F t v d σ σ1 → SetTs K F ts vs ds σ1 σ2 → SetTs K F (.cons t ts) (v :: vs) (d :: ds) σ σ2
end
mutual
def shp : Tg → PyData → Bool
  | .nm _, _ => true
  | .tp ts, .tuple ds => shps ts ds
  | .tp _, _ => false
def shps : Tgs → List PyData → Bool
  | .nil, [] => true
  | .cons t ts, d :: ds => shp t d && shps ts ds
  | _, _ => false
end
mutual
theorem asg_shp : ∀ (t : Tg) (d : PyData) (ρ ρ' : Rho), asgT t d ρ = some ρ' → shp t d = true
  | .nm _, _, _, _, _ => rfl
  | .tp ts, .tuple ds, ρ, ρ', h => asgs_shp ts ds ρ ρ' h
  | .tp _, .none, _, _, h => by cases h
  | .tp _, .bool _, _, _, h => by cases h
  | .tp _, .int _, _, _, h => by cases h
  | .tp _, .str _, _, _, h => by cases h
  | .tp _, .list _, _, _, h => by cases h
  | .tp _, .dict _, _, _, h => by cases h
theorem asgs_shp : ∀ (ts : Tgs) (ds : List PyData) (ρ ρ' : Rho), asgTs ts ds ρ = some ρ' → shps ts ds = true
  | .nil, [], _, _, _ => rfl
  | .cons t ts, d :: ds, ρ, ρ', h => by
    obtain ⟨ρ1, h1, h2⟩ := Option.bind_eq_some_iff.mp (show (asgT t d ρ).bind (fun ρ' => asgTs ts ds ρ') = some ρ' from h)
    show (shp t d && shps ts ds) = true
    rw [asg_shp t d ρ ρ1 h1, asgs_shp ts ds ρ1 ρ' h2] <;> rfl
  | .nil, _ :: _, _, _, h => by cases h
  | .cons _ _, [], _, _, h => by cases h
end
section
variable {K : Kw} {Z : Bs} {β : List Addr} {F H : Hp} {S : Sto}
mutual
theorem Rl.asg : ∀ {t : Tg} {v : V} {d : PyData} {σ σ' : St} {ρ ρ' : Rho}, SetT K F t v d σ σ' → asgT t d ρ = some ρ' → Rl K Z β F ρ S σ H → Rl K Z β F ρ' S σ' H
  | _, _, _, _, _, ρ, ρ', .nm (i := i) hd, h, r => by
    by_cases c : i < ρ.length
    · simp only [asgT, if_pos c] at h
      cases h
      exact r.set c hd
    · simp only [asgT, if_neg c] at h
      cases h
  | _, _, _, _, _, ρ, ρ', .tp hs, h, r => Rl.asgs hs h r
theorem Rl.asgs : ∀ {ts : Tgs} {vs : List V} {ds : List PyData} {σ σ' : St} {ρ ρ' : Rho}, SetTs K F ts vs ds σ σ' → asgTs ts ds ρ = some ρ' → Rl K Z β F ρ S σ H → Rl K Z β F ρ' S σ' H
  | _, _, _, _, _, ρ, ρ', .nil, h, r => by cases h; exact r
  | _, _, _, _, _, ρ, ρ', .cons (t := t) (ts := ts) (d := d) (ds := ds) h1 h2, h, r => by
    obtain ⟨ρ1, e1, e2⟩ := Option.bind_eq_some_iff.mp (show (asgT t d ρ).bind (fun ρ' => asgTs ts ds ρ') = some ρ' from h)
    exact Rl.asgs h2 e2 (Rl.asg h1 e1 r)
end
end
def gT (K : PySem.W.Frag) (t : Tg) : TG := fun v σ H Q => ∃ F d, Sub F H ∧ Dp K F v d ∧ shp t d = true ∧ ∀ σ', SetT K F t v d σ σ' → Q σ' H
def gTs (K : PySem.W.Frag) (ts : Tgs) : TGs := fun vs σ H Q => ∃ F ds, Sub F H ∧ DpAll K F vs ds ∧ shps ts ds = true ∧ ∀ σ', SetTs K F ts vs ds σ σ' → Q σ' H
theorem PG.imp {X : Cx} {e : Expr} {t t' : TG} (h : PG X e t) (i : ∀ v σ H Q, t' v σ H Q → t v σ H Q) : PG X e t' := ⟨fun pins s σ H v u Q I r q => h.run pins s σ H v u Q I r (i v σ H Q q)⟩
theorem PGs.imp {X : Cx} {e : List Expr} {t t' : TGs} (h : PGs X e t) (i : ∀ v σ H Q, t' v σ H Q → t v σ H Q) : PGs X e t' := ⟨fun pins s σ H v u Q I r q => h.run pins s σ H v u Q I r (i v σ H Q q)⟩
/-- the names that a target may set here -/
def LocOk (X : Cx) (x : Str) : Prop := Loc X.env.scope x ∧ (X.fn x = true ∨ X.env.scope.names.lookup x = some .local)
def tgNames (N : List Str) (t : Tg) : List Str := (tgOwn t).filterMap fun i => N[i]?
theorem tgNm {N : List Str} {i : Nat} {x : Str} (h : N[i]? = some x) : x ∈ tgNames N (.nm i) := by
  unfold tgNames tgOwn
  simp [h]
mutual
theorem snd_Tg {X : Cx} {N : List Str} (hN : X.N = N) (nd : N.Nodup) (hc : X.calm = true) : ∀ (n : Nat) (e : Expr) (t : Tg), cTg N n e = some t → (∀ x ∈ tgNames N t, LocOk X x) → PG X e (gT X.K t)
  | 0, _, _, h, _ => by cases h
  | n + 1, e, t, h, hl => by
    cases e with
    | Name x pos =>
      obtain ⟨i, e1, rfl⟩ := map_of (show (slotOf N x).map Tg.nm = some t from h)
      have hi := slotOf_ok e1
      obtain ⟨l1, l2⟩ := hl x (tgNm hi)
      refine PG.imp (pg_name (i := i) (by rw [hN]; exact nd) (by rw [hN]; exact hi) l1 l2) fun v σ H Q q => ?_
      obtain ⟨F, d, _, hd, _, k⟩ := q
      exact k _ (.nm hd)
    | Tuple es k pos =>
      obtain ⟨ts, e1, rfl⟩ := map_of (show (cTg.cTgs N n es).map Tg.tp = some t from h)
      obtain ⟨hs, hlen, hst⟩ := snd_Tgs hN nd hc n es ts e1 hl
      refine PG.imp (pg_tup (n := es.length) hc hs hlen hst) fun v σ H Q q => ?_
      obtain ⟨F, d, sub, hd, hsh, kk⟩ := q
      cases hd with
      | tup h1 h2 =>
        rename_i a vs ds
        have hl2 : vs.length = es.length := by
          have e3 := dps_len h2
          rw [e3]
          exact cTgs_len n es ts ds e1 hsh
        exact ⟨a, vs, rfl, sqT_sub sub h1, hl2, F, ds, sub, h2, hsh, fun σ' hσ => kk σ' (.tp hσ)⟩
      | _ => cases hsh
    | _ => cases h
theorem snd_Tgs {X : Cx} {N : List Str} (hN : X.N = N) (nd : N.Nodup) (hc : X.calm = true) : ∀ (n : Nat) (es : List Expr) (ts : Tgs), cTg.cTgs N n es = some ts → (∀ x ∈ tgNames N (.tp ts), LocOk X x) →
    PGs X es (gTs X.K ts) ∧ (assignEach es X.env).length = es.length ∧ (assignEach es X.env).findIdx? (·.1) = none
  | 0, _, _, h, _ => by cases h
  | n + 1, [], ts, h, _ => by
    cases h
    refine ⟨PGs.imp pgs_nil fun vs σ H Q q => ?_, rfl, rfl⟩
    obtain ⟨F, ds, _, hd, hsh, k⟩ := q
    cases ds with
    | nil => cases hd; exact ⟨rfl, k σ .nil⟩
    | cons _ _ => cases hsh
  | n + 1, e :: es, ts, h, hl => by
    obtain ⟨t, e1, h2⟩ := Option.bind_eq_some_iff.mp (show ((cTg N n e).bind fun t => (cTg.cTgs N n es).map fun ts => Tgs.cons t ts) = some ts from h)
    obtain ⟨ts', e2, rfl⟩ := map_of h2
    have hl1 : ∀ x ∈ tgNames N t, LocOk X x := fun x hx => hl x (by
      unfold tgNames at hx ⊢
      simp only [tgOwn, tgsOwn, List.filterMap_append, List.mem_append]
      exact .inl hx)
    have hl2 : ∀ x ∈ tgNames N (.tp ts'), LocOk X x := fun x hx => hl x (by
      unfold tgNames at hx ⊢
      simp only [tgOwn, tgsOwn, List.filterMap_append, List.mem_append] at hx ⊢
      exact .inr hx)
    have g1 := snd_Tg hN nd hc n e t e1 hl1
    obtain ⟨g2, k1, k2⟩ := snd_Tgs hN nd hc n es ts' e2 hl2
    have he : ∀ es, assignEach (e :: es) X.env = (false, assign e X.env) :: assignEach es X.env := by
      intro es
      cases n with
      | zero => cases e1
      | succ n =>
        cases e with
        | Name _ _ => rfl
        | Tuple _ _ _ => rfl
        | _ => cases e1
    refine ⟨PGs.imp (pgs_cons g1 g2 (by rw [he, List.map_cons])) fun vs σ H Q q => ?_, by rw [he, List.length_cons, List.length_cons, k1], by rw [he, List.findIdx?_cons]; simp [k2]⟩
    obtain ⟨F, ds, sub, hd, hsh, k⟩ := q
    cases ds with
    | nil => cases hsh
    | cons d ds =>
      cases hd with
      | cons h1 h2 =>
        have hsh : (shp t d && shps ts' ds) = true := hsh
        obtain ⟨s1, s2⟩ := Bool.and_eq_true_iff.mp hsh
        exact ⟨_, _, rfl, F, d, sub, h1, s1, fun σ1 hσ1 => ⟨F, ds, sub, h2, s2, fun σ2 hσ2 => k σ2 (.cons hσ1 hσ2)⟩⟩
theorem cTgs_len {N : List Str} : ∀ (n : Nat) (es : List Expr) (ts : Tgs) (ds : List PyData), cTg.cTgs N n es = some ts → shps ts ds = true → ds.length = es.length
  | 0, _, _, _, h, _ => by cases h
  | n + 1, [], ts, ds, h, hs => by
    cases h
    cases ds with
    | nil => rfl
    | cons _ _ => cases hs
  | n + 1, e :: es, ts, ds, h, hs => by
    obtain ⟨t, e1, h2⟩ := Option.bind_eq_some_iff.mp (show ((cTg N n e).bind fun t => (cTg.cTgs N n es).map fun ts => Tgs.cons t ts) = some ts from h)
    obtain ⟨ts', e2, rfl⟩ := map_of h2
    cases ds with
    | nil => cases hs
    | cons d ds =>
      have hs : (shp t d && shps ts' ds) = true := hs
      rw [List.length_cons, List.length_cons, cTgs_len n es ts' ds e2 (Bool.and_eq_true_iff.mp hs).2]
end
/-! ### what is walked -/
/-- J yields the data ds -/
def Ylds (K : PySem.W.Frag) (F H : Hp) (J : L2.It) (ds : List PyData) : Prop :=
  (∀ (i : Nat) (d : PyData), ds[i]? = some d → J.go i H ∧ ∀ x H2, J.yld i H x H2 → ∃ F2, Nw F H F2 H2 ∧ Dp K F2 x d) ∧ J.stop ds.length H
def Jok (K : PySem.W.Frag) (β0 : List Addr) (F0 H0 : Hp) (J : L2.It) (ds : List PyData) : Prop := ∀ β F H, Up β0 F0 H0 β F H → Sub F H → Ylds K F H J ds
def JokF (K : PySem.W.Frag) (F0 : Hp) (J : L2.It) (ds : List PyData) : Prop := ∀ F H, Sub F0 F → Sub F H → Ylds K F H J ds
theorem JokF.ok {K : PySem.W.Frag} {β0 : List Addr} {F0 H0 : Hp} {J : L2.It} {ds : List PyData} (h : JokF K F0 J ds) : Jok K β0 F0 H0 J ds := fun β F H u s => h F H u.ff s
/-- the keys of a dict -/
def Itx (d : Addr) (o : Obj) (es : List DictEntry) : L2.It := ⟨fun i H => H d = some (xO d o) ∧ i < es.length, fun i H x H' => H' = H ∧ ∃ en, es[i]? = some en ∧ RelV x en.key, fun i H => H d = some (xO d o) ∧ es.length ≤ i⟩
theorem turn_x {P : Program} {w : World} {K : PySem.W.Frag} {tg : Expr} {d : Addr} {o : Obj} {es : Array DictEntry} {ep : Nat} (it : Addr) (hod : o.data = .dict es ep) (hk : ∀ en ∈ es.toList, ∃ kv, RelV kv en.key) : Turn P w K tg (Itx d o es.toList) [it] it (fun i h => h.IsKeyIter it d i es.size ep) where
  mem := by simp
  obj := fun i h st b hb => by
    have e : b = it := by simpa using hb
    subst e
    obtain ⟨oi, e1, e2, e3⟩ := st
    exact ⟨oi, e1, fun v z => by rw [e3] at z; cases z⟩
  keep := fun i h h' st k => st.at fun oi e => k it (by simp) oi e
  item := by
    intro X hP hw hK hc i pins s σ H E I hf st hg
    subst hP hw hK
    obtain ⟨hd, hi⟩ := hg
    obtain ⟨f0, f1, f2, f3, f4, f5⟩ := hf it (by simp)
    have hgd := xo_get I hd
    have hi' : i < es.size := by rw [← Array.length_toList]; exact hi
    have hen : es[i]? = some es[i] := Array.getElem?_eq_getElem hi'
    obtain ⟨kv, hkv⟩ := hk es[i] (by simp)
    refine next_key_item st hgd hod rfl hen fun h' st' sb => ?_
    have I1 : Inv X pins σ H { s with heap := h' } := I.turned (t' := s.toks) (fun b ob hb e => (sb.2 b hb).trans e) f0 f1 f3 f4 f5
    obtain ⟨oi, e, c, dd⟩ := id st'
    refine ⟨_, rfl, go_of (s := { s with heap := h' }) e c dd (by decide) ⟨kv, H, I1, hkv, ⟨rfl, es[i], by simp [hi'], hkv⟩, st', fun b hb => (hf b hb).1⟩⟩
  done := by
    intro X hP hw hK hc i pins s σ H E I hf st hg
    subst hP hw hK
    obtain ⟨hd, hi⟩ := hg
    obtain ⟨f0, f1, f2, f3, f4, f5⟩ := hf it (by simp)
    exact next_key_end (I.ok.hd hc) st (xo_get I hd) hod rfl (by rw [Array.length_toList] at hi; exact hi) fun h' eb => ⟨rfl, I.turned (t' := s.toks) (fun b ob hb e => eb b ob hb e) f0 f1 f3 f4 f5⟩
  self := fun A i s Q E st h => by
    refine wpAny_pyIter_slot st.typeIs PySem.F.slot_dict_keyiterator_iter (wpAny_call_entry PySem.F.slot_dict_keyiterator_iter st.typeIs PySem.F.entry_dict_keyiterator_iter ?_ (PySem.F.args_dict_keyiterator_iter_1 _))
    exact (show wpAny _ _ (ret (.ref it)) _ _ s from wpAny_pure ⟨_, rfl, "dict_keyiterator", _, st.typeIs, PySem.F.slot_dict_keyiterator_next.lookup, h⟩)
def iAny (K : PySem.W.Frag) (tl : TE) : TI := fun σ H R => tl σ H fun x H1 => (∃ a xs, x = .ref a ∧ SqL K H1 a xs ∧ R (Itl K a) H1) ∨ (∃ a xs, x = .ref a ∧ SqT K H1 a xs ∧ R (Itt K a) H1) ∨ (∃ z, x = .str z ∧ R (Its z) H1) ∨
  ∃ a o es ep, x = .ref a ∧ H1 a = some (xO a o) ∧ (a == sysModules) = false ∧ o.ExactDict ∧ o.data = .dict es ep ∧ (∀ en ∈ es.toList, ∃ kv, RelV kv en.key) ∧ R (Itx a o es.toList) H1
theorem pi_any {X : Cx} {tg l : Expr} {tl : TE} (hl : PE X l tl) : PI X tg l (iAny X.K tl) := by
  refine ⟨fun pins s σ H R I h => ?_⟩
  refine thn (hl.run pins s σ H _ I h) fun v s1 ⟨x, H1, I1, r1, q1⟩ => ?_
  rcases q1 with ⟨a, xs, rfl, hq, q⟩ | ⟨a, xs, rfl, hq, q⟩ | ⟨z, rfl, q⟩ | ⟨a, o, es, ep, rfl, ho, hsy, hx, hdt, hk, q⟩
  · cases r1
    obtain ⟨its, rv, p, hz⟩ := I1.list hq
    refine wpAny_pyIter_list p.isList ?_
    exact pi_one (tk := s1.toks) I1 _ (turn_list a _) ⟨_, Heap.get?_push_size _ rfl, rfl, rfl⟩ q
  · cases r1
    obtain ⟨its, rv, p, hz⟩ := I1.tuple hq
    refine wpAny_pyIter_tuple (show s1.heap.IsTuple a its.toArray from p) ?_
    exact pi_one (tk := s1.toks) I1 _ (turn_tuple a _) ⟨_, Heap.get?_push_size _ rfl, rfl, rfl⟩ q
  · obtain ⟨t, rfl⟩ := r1
    cases ha : z.cps.all (· < 128)
    · exact wpAny_pyIter_wide ha (pi_one (tk := s1.toks) I1 _ (turn_str _ z t "str_iterator" (.inr rfl)) ⟨_, Heap.get?_push_size _ rfl, rfl, rfl⟩ q)
    · exact wpAny_pyIter_ascii ha (pi_one (tk := s1.toks) I1 _ (turn_str _ z t "str_ascii_iterator" (.inl rfl)) ⟨_, Heap.get?_push_size _ rfl, rfl, rfl⟩ q)
  · cases r1
    exact iter_keys hsy (xo_get I1 ho) hx hdt (pi_one (tk := s1.toks) I1 _ (turn_x _ hdt hk) ⟨_, Heap.get?_push_size _ rfl, rfl, rfl⟩ q)
section
variable {K : PySem.W.Frag} {F H : Hp}
theorem ylds_list {a : Addr} {vs : List V} {ds : List PyData} (s : Sub F H) (h : SqL K H a vs) (hd : DpAll K F vs ds) : Ylds K F H (Itl K a) ds := by
  refine ⟨fun i d e => ?_, ⟨vs, h, by rw [dps_len hd]; exact Nat.le_refl _⟩⟩
  obtain ⟨v, h1, h2⟩ := dps_get hd e
  refine ⟨⟨vs, v, h, h1⟩, fun x H2 y => ?_⟩
  obtain ⟨rfl, y⟩ := y
  have e2 := y vs h
  rw [h1] at e2
  cases e2
  exact ⟨F, Nw.refl s, h2⟩
theorem ylds_tup {a : Addr} {vs : List V} {ds : List PyData} (s : Sub F H) (h : SqT K H a vs) (hd : DpAll K F vs ds) : Ylds K F H (Itt K a) ds := by
  refine ⟨fun i d e => ?_, ⟨vs, h, by rw [dps_len hd]; exact Nat.le_refl _⟩⟩
  obtain ⟨v, h1, h2⟩ := dps_get hd e
  refine ⟨⟨vs, v, h, h1⟩, fun x H2 y => ?_⟩
  obtain ⟨rfl, y⟩ := y
  have e2 := y vs h
  rw [h1] at e2
  cases e2
  exact ⟨F, Nw.refl s, h2⟩
theorem ylds_x {a : Addr} {o : Obj} {es : List DictEntry} {ds : List PyData} (s : Sub F H) (h : H a = some (xO a o)) (hd : Paired (fun (e : DictEntry) (d : PyData) => ∃ kv, RelV kv e.key ∧ Dp K F kv d) es ds) : Ylds K F H (Itx a o es) ds := by
  have hl := paired_len hd
  refine ⟨fun i d e => ?_, ⟨h, by rw [hl]; exact Nat.le_refl _⟩⟩
  obtain ⟨en, h1, kv, h2, h3⟩ := FO.paired_get hd e
  refine ⟨⟨h, by rw [hl]; exact (List.getElem?_eq_some_iff.mp e).1⟩, fun x H2 y => ?_⟩
  obtain ⟨rfl, en', e1, r⟩ := y
  rw [h1] at e1
  cases e1
  have e2 : x = kv := RelV.inj r h2
  subst e2
  exact ⟨F, Nw.refl s, h3⟩
theorem ylds_str {z : Str} (s : Sub F H) : Ylds K F H (Its z) (strItems z) := by
  refine ⟨fun i d e => ?_, ?_⟩
  · unfold strItems at e
    rw [List.getElem?_map] at e
    obtain ⟨c, h1, rfl⟩ := map_of e
    have h1' : z.cps[i]? = some c := by simpa using h1
    have hlt : i < z.cps.size := (Array.getElem?_eq_some_iff.mp h1').1
    refine ⟨hlt, fun x H2 y => ?_⟩
    obtain ⟨rfl, c', e1, rfl⟩ := y
    rw [h1'] at e1
    cases e1
    exact ⟨F, Nw.refl s, .str _⟩
  · show z.cps.size ≤ (strItems z).length
    simp [strItems]
theorem rngD_len : ∀ (n : Nat) (a : Int), (rngD a n).length = n
  | 0, _ => rfl
  | n + 1, a => by show (rngD (a + 1) n).length + 1 = n + 1; rw [rngD_len n]
theorem rngD_get : ∀ (n : Nat) (a : Int) (i : Nat) (d : PyData), (rngD a n)[i]? = some d → i < n ∧ d = .int (a + i)
  | 0, _, i, d, h => by simp [rngD] at h
  | n + 1, a, 0, d, h => by
    simp [rngD] at h
    exact ⟨Nat.succ_pos n, by rw [← h]; simp⟩
  | n + 1, a, i + 1, d, h => by
    have h' : (rngD (a + 1) n)[i]? = some d := by simpa [rngD] using h
    obtain ⟨h1, h2⟩ := rngD_get n (a + 1) i d h'
    refine ⟨by omega, ?_⟩
    rw [h2]
    have : a + 1 + (i : Int) = a + ((i + 1 : Nat) : Int) := by omega
    rw [this]
theorem ylds_rng {a : Int} {n : Nat} (s : Sub F H) : Ylds K F H (Itr a n) (rngD a n) := by
  refine ⟨fun i d e => ?_, ?_⟩
  · obtain ⟨h1, rfl⟩ := rngD_get n a i d e
    refine ⟨h1, fun x H2 y => ?_⟩
    obtain ⟨rfl, rfl⟩ := y
    exact ⟨F, Nw.refl s, .int _⟩
  · rw [rngD_len]
    exact Nat.le_refl _
end
/-- no slot's own list is walked -/
def noOwn (ρ : Rho) : FO.It → Prop
  | .e a => ∀ (i : Nat) (xs : List PyData), a = .v i → ρ[i]? ≠ some (.own xs)
  | .enum a => ∀ (i : Nat) (xs : List PyData), a = .v i → ρ[i]? ≠ some (.own xs)
  | .rng _ _ => True
  | .zip _ _ => True
  | .enz _ _ => True
def iD (K : Kw) (wx : Wx) (P : Pg) (it : FO.It) : TI := fun σ H R => ∃ Z β F ρ S, Rl K Z β F ρ S σ H ∧ Pw K Z ρ σ (fun c => wx c σ) β F H (evi P it ρ S) fun ds β' F' _ H' => ∀ J, Jok K β' F' H' J ds → (noOwn ρ it → JokF K F' J ds) → R J H'
theorem PI.imp {X : Cx} {tg e : Expr} {t t' : TI} (h : PI X tg e t) (i : ∀ σ H R, t' σ H R → t σ H R) : PI X tg e t' := ⟨fun pins s σ H R I q => h.run pins s σ H R I (i σ H R q)⟩
section
variable {K : Kw} {wx : Wx} {P : Pg}
/-- a dict is only read from now on -/
theorem Rl.lock {Z : Bs} {β : List Addr} {F H : Hp} {ρ : Rho} {S : Sto} {σ : St} {n : Nat} {a : Addr} {o : Obj} {kvs : List (PyData × W)} (r : Rl K Z β F ρ S σ H) (hb : β[n]? = some a) (hc : S[n]? = some (.dct kvs)) (ho : H a = some (xO a o)) (d : DctOk K β F a o kvs) :
    Up β F H β (upd F a (xO a o)) H ∧ Rl K Z β (upd F a (xO a o)) ρ (S.set n (.lck kvs)) σ H := by
  have hF : F a = none := r.st.out n a _ hb hc rfl
  have ff : Sub F (upd F a (xO a o)) := Sub.new hF
  have hin : a ∈ β := List.mem_of_getElem? hb
  have hnl : n < S.length := (List.getElem?_eq_some_iff.mp hc).1
  have bn : ∀ (m : Nat) (b : Addr), n ≠ m → β[m]? = some b → b ≠ a := fun m b hm h z => by
    subst z
    exact hm ((List.getElem?_inj (List.getElem?_eq_some_iff.mp hb).1 r.st.nd).mp (hb.trans h.symm))
  have fh : Sub (upd F a (xO a o)) H := fun b u e => by
    by_cases c : b = a
    · subst c; rw [upd_same] at e; cases e; exact ho
    · rw [upd_ne c] at e; exact r.fh b u e
  have u : Up β F H β (upd F a (xO a o)) H := ⟨⟨[], by simp, by simp⟩, ff, fun b u e nb => upd_ne fun (z : b = a) => nb (by rw [z]; exact hin), fun _ _ e _ => e, fun _ u e => ⟨u, e⟩⟩
  refine ⟨u, r.next u fh ⟨by simp [r.st.len], r.st.nd, fun m b c h1 h2 hl => ?_, fun m b c h1 h2 => ?_⟩⟩
  · by_cases c1 : n = m
    · subst c1
      rw [List.getElem?_set_self hnl] at h2
      cases h2
      cases hl
    · rw [List.getElem?_set_ne c1] at h2
      rw [upd_ne (bn m b c1 h1)]
      exact r.st.out m b c h1 h2 hl
  · by_cases c1 : n = m
    · subst c1
      rw [hb] at h1
      cases h1
      rw [List.getElem?_set_self hnl] at h2
      cases h2
      exact ⟨o, ho, upd_same, d.mono ff fun _ _ e => e⟩
    · rw [List.getElem?_set_ne c1] at h2
      exact (r.st.cell m b c h1 h2).mono ff (fun _ _ e => e) fun _ e => e
theorem ents_d {β : List Addr} {F : Hp} {es : List DictEntry} {kvs : List (PyData × W)} (h : Paired (EntOk K β F) es kvs) : Paired (fun (e : DictEntry) (d : PyData) => ∃ kv, RelV kv e.key ∧ Dp K F kv d) es (kvs.map (·.1)) := paired_map (fun _ _ q => q.2.1) h
theorem ents_k {β : List Addr} {F : Hp} {es : List DictEntry} {kvs : List (PyData × W)} (h : Paired (EntOk K β F) es kvs) : ∀ en ∈ es, ∃ kv, RelV kv en.key := by
  induction h with
  | nil => exact fun _ z => nomatch z
  | cons q _ ih =>
    intro en he
    rcases List.mem_cons.mp he with rfl | he
    · obtain ⟨_, ⟨kv, q1, _⟩, _⟩ := q; exact ⟨kv, q1⟩
    · exact ih en he
theorem it_D {a : E} {σ : St} {H : Hp} {R : L2.It → Hp → Prop} (h : iD K wx P (.e a) σ H R) : iAny K (tA K wx P a) σ H R := by
  obtain ⟨Z, β, F, ρ, S, rl, h⟩ := h
  simp only [evi] at h
  refine ⟨Z, β, F, ρ, S, rl, h.bind.mono fun w β1 F1 S1 H1 u1 rl1 ⟨_, _, h1⟩ x rx => ?_⟩
  cases w with
  | ref n =>
    rcases rx with ⟨ad, ha, rfl⟩ | ⟨_, _, _, _, e, _⟩
    case inr => cases e
    dsimp only at h1
    have fin : ∀ {F2 : Hp} {S2 : Sto} {o : Obj} {kvs : List (PyData × W)}, Rl K Z β1 F2 ρ S2 σ H1 → F2 ad = some (xO ad o) → H1 ad = some (xO ad o) → DctOk K β1 F2 ad o kvs → (∀ J, Jok K β1 F2 H1 J (kvs.map (·.1)) → (noOwn ρ (.e a) → JokF K F2 J (kvs.map (·.1))) → R J H1) → ∃ a o es ep, V.ref ad = .ref a ∧ H1 a = some (xO a o) ∧ (a == sysModules) = false ∧ o.ExactDict ∧ o.data = .dict es ep ∧ (∀ en ∈ es.toList, ∃ kv, RelV kv en.key) ∧ R (Itx a o es.toList) H1 := fun {F2 S2 o kvs} rl2 hF hH d k => by
      obtain ⟨es, ep, e1, e2⟩ := d.ents
      have jf : JokF K F2 (Itx ad o es.toList) (kvs.map (·.1)) := fun F' H' s1 s2 => ylds_x s2 (s2 _ _ (s1 _ _ hF)) (paired_imp (fun _ _ ⟨kv, q1, q2⟩ => ⟨kv, q1, dp_sub s1 q2⟩) (ents_d e2))
      exact ⟨ad, o, es, ep, rfl, hH, d.sys, d.ex, e1, ents_k e2, k _ jf.ok fun _ => jf⟩
    cases q : S1[n]? with
    | none => rw [q] at h1; exact h1.elim
    | some c =>
      rw [q] at h1
      cases c with
      | dct kvs =>
        obtain ⟨o, k1, k2⟩ := rl1.st.cell n ad _ ha q
        obtain ⟨u, rl2⟩ := rl1.lock ha q k1 k2
        exact .inr (.inr (.inr (fin rl2 upd_same k1 (k2.mono u.ff fun _ _ e => e) (h1 _ _ _ u rl2))))
      | lck kvs =>
        obtain ⟨o, k1, k3, k2⟩ := rl1.st.cell n ad _ ha q
        exact .inr (.inr (.inr (fin rl1 k3 k1 k2 (Pw.here h1 rl1))))
      | _ => exact h1.elim
  | exc c => exact h1.elim
  | d y =>
    have h1' : Pw K Z ρ σ (fun c => wx c σ) β1 F1 H1 (Res.lift S1 (itemsD y)) _ := h1
    cases y with
    | list ds =>
      have k := Pw.here (a := ds) h1' rl1
      rcases rx with rx | ⟨i, xs, e0, e1, e2, e3⟩
      · cases (show Dp K F1 x (.list ds) from rx) with
        | lst q1 q2 =>
          rename_i a' vs
          have jf : JokF K F1 (Itl K a') ds := fun F' H' s1 s2 => ylds_list s2 (sqL_sub (s1.trans s2) q1) (dps_sub s1 q2)
          exact .inl ⟨a', vs, rfl, sqL_sub rl1.fh q1, k _ jf.ok fun _ => jf⟩
      · injection e2 with e2; injection e2 with e2; subst e2
        obtain ⟨a', vs, q1, q2, q3, q4, _, q6⟩ := rl1.own i ds e1
        rw [q1] at e3; cases e3
        have j : Jok K β1 F1 H1 (Itl K a') ds := fun β' F' H' u s => ylds_list s (.inl (.inl (u.hh _ _ q2 q4))) (dps_sub u.ff q6)
        exact .inl ⟨a', vs, rfl, .inl (.inl q2), k _ j fun no => absurd e1 (no i ds e0)⟩
    | tuple ds =>
      have k := Pw.here (a := ds) h1' rl1
      rcases rx with rx | ⟨i, xs, e0, e1, e2, e3⟩
      · cases (show Dp K F1 x (.tuple ds) from rx) with
        | tup q1 q2 =>
          rename_i a' vs
          have jf : JokF K F1 (Itt K a') ds := fun F' H' s1 s2 => ylds_tup s2 (sqT_sub (s1.trans s2) q1) (dps_sub s1 q2)
          exact .inr (.inl ⟨a', vs, rfl, sqT_sub rl1.fh q1, k _ jf.ok fun _ => jf⟩)
      · injection e2 with e2; cases e2
    | str z =>
      have h1'' : Pw K Z ρ σ (fun c => wx c σ) β1 F1 H1 (Res.lift S1 (if Nat.ble z.length lim = true then some (strItems z) else none)) _ := h1'
      by_cases c : Nat.ble z.length lim = true
      · rw [if_pos c] at h1''
        have k := Pw.here (a := strItems z) h1'' rl1
        rcases rx with rx | ⟨i, xs, e0, e1, e2, e3⟩
        · cases (show Dp K F1 x (.str z) from rx)
          have jf : JokF K F1 (Its z) (strItems z) := fun F' H' s1 s2 => ylds_str s2
          exact .inr (.inr (.inl ⟨z, rfl, k _ jf.ok fun _ => jf⟩))
        · injection e2 with e2; cases e2
      · rw [if_neg c] at h1''; exact h1''.elim
    | _ => exact h1'.elim
end
end FO

set_option Elab.async false
set_option linter.all false
set_option maxHeartbeats 1000000
set_option maxRecDepth 10000
namespace FO
open PySem PySem.Spec PyProof.Rows L2
/-! ### enumerate(text) -/
def Itw (z : Str) : L2.It := ⟨fun i _ => i < z.cps.size, fun i H v H' => ∃ T c, v = .ref T ∧ H T = none ∧ H' = upd H T (.tup [.int (i : Nat), .str ⟨#[c]⟩]) ∧ z.cps[i]? = some c, fun i _ => i = z.cps.size⟩
theorem turn_enumS {P : Program} {w : World} {K : PySem.W.Frag} {elts : List Expr} {kk : Nat} {tpos : Pos} (e it : Addr) (x : Str) (t : Tok) :
    Turn P w K (.Tuple elts kk tpos) (Itw x) [e, it] e (fun i h => (∃ old, IsEnum h e it ((i : Nat) : Int) old) ∧ h.IsStrIter it (strIterType x) x t i ∧ e ≠ it) where
  mem := by simp
  obj := fun i h st b hb => by
    obtain ⟨⟨old, he⟩, ⟨o, ho, hc, hd⟩, _⟩ := st
    have e' : b = e ∨ b = it := by simpa using hb
    rcases e' with z | z
    · rw [z]; exact ⟨_, he, fun v q => nomatch q⟩
    · rw [z]; exact ⟨o, ho, fun v q => by rw [hd] at q; cases q⟩
  keep := fun i h h' st k => let ⟨⟨old, he⟩, ⟨o, ho, r⟩, hne⟩ := st; ⟨⟨old, k e (by simp) _ he⟩, ⟨o, k it (by simp) o ho, r⟩, hne⟩
  item := by
    intro X hP hw hK hc i pins s σ H E I hf st hg
    subst hP hw hK
    obtain ⟨⟨old, he⟩, hit, hne⟩ := st
    have hel : e < s.heap.objs.size := Heap.lt_size he
    have hil : it < s.heap.objs.size := by obtain ⟨_, q, _⟩ := hit; exact Heap.lt_size q
    refine wpAny_pyNext_enum_itemD (Draws.text (prog := X.prog) (w := X.w) (A := X.A.in1) (I.ok.hd hc) it x t) he hit hg hne (by simpa using hne) fun u h' tk hPu ho hit' hT hsz hk => ?_
    obtain ⟨c, u', hcx, rfl⟩ := hPu
    refine ⟨_, rfl, wpAny_letOwnedTupleGo_enum (s := { s with heap := h', toks := tk + 1 }) ho fun h'' he' sb => ?_⟩
    have hT2 : h''.get? s.heap.objs.size = some { cls := .type "tuple", data := .seq #[.int i tk, .str ⟨#[c]⟩ u'] } := (sb.2 _ (Nat.ne_of_gt hel)).trans hT
    have new : ObjOk X.prog X.w (upd H s.heap.objs.size (.tup [.int (i : Nat), .str ⟨#[c]⟩])) h'' s.heap.objs.size (.tup [.int (i : Nat), .str ⟨#[c]⟩]) :=
      ⟨by show 2 ≤ sizeLine; decide, [.int i tk, .str ⟨#[c]⟩ u'], .cons ⟨_, rfl⟩ (.cons ⟨_, rfl⟩ .nil), ⟨_, hT2, rfl, _, rfl⟩⟩
    have I1 : Inv X pins σ (upd H s.heap.objs.size (.tup [.int (i : Nat), .str ⟨#[c]⟩])) { s with heap := h'', toks := tk + 1 } :=
      I.turnedNew (ch := [e, it]) (fun b ob hb q => (sb.2 b (fun z => hb (by simp [z]))).trans (hk b ob (fun z => hb (by simp [z])) (fun z => hb (by simp [z])) q)) hf (Nat.le_refl _) new
    refine ⟨.ref s.heap.objs.size, _, I1, rfl, ⟨_, c, rfl, I.hok.fresh (Nat.le_refl _), rfl, hcx⟩, ⟨⟨.str ⟨#[c]⟩ u', ?_⟩, ?_, hne⟩, fun b hb => ?_⟩
    · have e1 : ((i + 1 : Nat) : Int) = (i : Int) + 1 := by omega
      rw [e1]; exact he'
    · obtain ⟨o, ho', r⟩ := hit'
      exact ⟨o, (sb.2 it (Ne.symm hne)).trans ho', r⟩
    · have hb' : b < s.heap.objs.size := by
        have e' : b = e ∨ b = it := by simpa using hb
        rcases e' with z | z
        · rw [z]; exact hel
        · rw [z]; exact hil
      rw [upd_ne (Nat.ne_of_lt hb')]
      exact (hf b hb).1
  done := by
    intro X hP hw hK hc i pins s σ H E I hf st hg
    subst hP hw hK
    obtain ⟨⟨old, he⟩, hit, hne⟩ := st
    obtain ⟨f0, f1, f2, f3, f4, f5⟩ := hf it (by simp)
    have hg : i = x.cps.size := hg
    subst hg
    exact wpAny_pyNext_enum_endD (Draws.text (prog := X.prog) (w := X.w) (A := X.A.in1) (I.ok.hd hc) it x t) he hit fun h' eb => ⟨rfl, I.turned (t' := s.toks) (fun b o hb q => eb b o hb q) f0 f1 f3 f4 f5⟩
  self := fun A i s Q E st h => let ⟨⟨_, he⟩, _⟩ := st; wpAny_pyIter_enum he h
def iEnumA (K : PySem.W.Frag) (ta : TA) : TI := fun σ H R => ta σ H fun vs H1 => (∃ a xs, vs = [.ref a] ∧ SqL K H1 a xs ∧ R (Ite K a) H1) ∨ ∃ z, vs = [.str z] ∧ R (Itw z) H1
theorem pi_enumA {X : Cx} {e : Expr} {ta : TA} {p pos tpos : Pos} {elts : List Expr} {kk : Nat} (hg : Gl X "enumerate") (hm : X.mg "enumerate" = none) (ha : PA X [e] ta) (hs : starEach [e] X.env = [(false, eval e X.env)]) :
    PI X (.Tuple elts kk tpos) (.Call (.Name "enumerate" p) [e] [] pos) (iEnumA X.K ta) := by
  refine ⟨fun pins s σ H R I h => ?_⟩
  refine Call_ (ld_blt I hg hm boot_enumerate (PyProof.Rows.callWith_type1 (thn (ha.run pos pins s σ H _ I h) fun us s1 ⟨vs, H1, I1, r1, q1⟩ => ?_) hs rfl))
  have fresh : ∀ b, b ∈ [s1.heap.objs.size + 1, s1.heap.objs.size] → FpOk X pins H1 b := fun b hb => by
    have e' : b = s1.heap.objs.size + 1 ∨ b = s1.heap.objs.size := by simpa using hb
    have hle : s1.heap.objs.size ≤ b := by
      rcases e' with z | z
      · rw [z]; exact Nat.le_add_right _ _
      · rw [z]; exact Nat.le_refl _
    exact I1.fpOk hle (I1.hok.fresh hle)
  rcases q1 with ⟨a, xs, ex, hq, q⟩ | ⟨z, ex, q⟩
  · subst ex
    cases r1 with
    | cons r rr =>
      cases rr
      cases r
      obtain ⟨its, rv, p', hz⟩ := I1.list hq
      refine call_enumerate_list p'.isList fun h' he hit hsz hk => wpAny_pyIter_enum he ?_
      have I2 : Inv X pins σ H1 { s1 with heap := h' } := I1.kept (t' := s1.toks) hk
      exact ⟨s1.heap.objs.size + 1, [s1.heap.objs.size + 1, s1.heap.objs.size], _, _, H1, rfl, I2, turn_enum a (s1.heap.objs.size + 1) s1.heap.objs.size, ⟨⟨.none, he⟩, hit, Nat.succ_ne_self _⟩, fresh, q⟩
  · subst ex
    cases r1 with
    | cons r rr =>
      cases rr
      obtain ⟨t, rfl⟩ := r
      refine call_enumerate_str fun h' he hit hsz hk => wpAny_pyIter_enum he ?_
      have I2 : Inv X pins σ H1 { s1 with heap := h' } := I1.kept (t' := s1.toks) hk
      exact ⟨s1.heap.objs.size + 1, [s1.heap.objs.size + 1, s1.heap.objs.size], _, _, H1, rfl, I2, turn_enumS (s1.heap.objs.size + 1) s1.heap.objs.size z t, ⟨⟨.none, he⟩, hit, Nat.succ_ne_self _⟩, fresh, q⟩
section
variable {K : Kw} {wx : Wx} {P : Pg}
theorem enumD_len : ∀ (ds : List PyData) (n : Nat), (enumD n ds).length = ds.length
  | [], _ => rfl
  | _ :: r, n => by show (enumD (n + 1) r).length + 1 = r.length + 1; rw [enumD_len r]
theorem enumD_get : ∀ (ds : List PyData) (n i : Nat) (d : PyData), (enumD n ds)[i]? = some d → ∃ x, ds[i]? = some x ∧ d = .tuple [.int ((n + i : Nat) : Int), x]
  | [], _, i, d, h => by simp [enumD] at h
  | x :: r, n, 0, d, h => by
    simp [enumD] at h
    exact ⟨x, rfl, by rw [← h]; simp⟩
  | x :: r, n, i + 1, d, h => by
    obtain ⟨y, h1, h2⟩ := enumD_get r (n + 1) i d (by simpa [enumD] using h)
    refine ⟨y, by simpa using h1, ?_⟩
    rw [h2]
    have : n + 1 + i = n + (i + 1) := by omega
    rw [this]
theorem nw_pair {F H : Hp} {T : Addr} {x y : V} {d e : PyData} (s : Sub F H) (h : H T = none) (hx : Dp K F x d) (hy : Dp K F y e) :
    ∃ F2, Nw F H F2 (upd H T (.tup [x, y])) ∧ Dp K F2 (.ref T) (.tuple [d, e]) := by
  have s2 : Sub F (upd F T (.tup [x, y])) := Sub.new (s.none h)
  exact ⟨upd F T (.tup [x, y]), Nw.new s h, .tup (.inl (.inl upd_same)) (.cons (dp_sub s2 hx) (.cons (dp_sub s2 hy) .nil))⟩
theorem ylds_enum {F H : Hp} {a : Addr} {vs : List V} {ds : List PyData} (s : Sub F H) (h : SqL K H a vs) (hd : DpAll K F vs ds) : Ylds K F H (Ite K a) (enumD 0 ds) := by
  refine ⟨fun i d e => ?_, ⟨vs, h, by rw [enumD_len, dps_len hd]; exact Nat.le_refl _⟩⟩
  obtain ⟨x, h1, rfl⟩ := enumD_get ds 0 i d e
  obtain ⟨v, h2, h3⟩ := dps_get hd h1
  refine ⟨⟨vs, v, h, h2⟩, fun y H2 yl => ?_⟩
  obtain ⟨T, z, rfl, hT, rfl, hz⟩ := yl
  have e2 := hz vs h
  rw [h2] at e2
  cases e2
  have e3 : ((0 + i : Nat) : Int) = ((i : Nat) : Int) := by omega
  rw [e3]
  exact nw_pair s hT (.int _) h3
theorem ylds_enumS {F H : Hp} {z : Str} (s : Sub F H) : Ylds K F H (Itw z) (enumD 0 (strItems z)) := by
  refine ⟨fun i d e => ?_, by show (enumD 0 (strItems z)).length = z.cps.size; rw [enumD_len]; simp [strItems]⟩
  obtain ⟨x, h1, rfl⟩ := enumD_get _ 0 i d e
  unfold strItems at h1
  rw [List.getElem?_map] at h1
  obtain ⟨c, h2, rfl⟩ := map_of h1
  have h2' : z.cps[i]? = some c := by simpa using h2
  refine ⟨(Array.getElem?_eq_some_iff.mp h2').1, fun y H2 yl => ?_⟩
  obtain ⟨T, c', rfl, hT, rfl, hc⟩ := yl
  rw [h2'] at hc
  cases hc
  have e3 : ((0 + i : Nat) : Int) = ((i : Nat) : Int) := by omega
  rw [e3]
  exact nw_pair s hT (.int _) (.str _)

theorem enum_D {a : E} {σ : L2.St} {H : Hp} {R : L2.It → Hp → Prop} (h : iD K wx P (.enum a) σ H R) : iEnumA K (tCons (tA K wx P a) tNil) σ H R := by
  obtain ⟨Z, β, F, ρ, S, rl, h⟩ := h
  simp only [evi] at h
  refine ⟨Z, β, F, ρ, S, rl, h.bind.mono fun w β1 F1 S1 H1 u1 rl1 ⟨_, _, h1⟩ x rx => ?_⟩
  cases w with
  | ref n => exact h1.elim
  | exc c => exact h1.elim
  | d y =>
    have h1' : Pw K Z ρ σ (fun c => wx c σ) β1 F1 H1 (Res.lift S1 ((itemsE y).map (enumD 0))) _ := h1
    cases y with
    | list ds =>
      have k := Pw.here (a := enumD 0 ds) h1' rl1
      rcases rx with rx | ⟨i, xs, e0, e1, e2, e3⟩
      · cases (show Dp K F1 x (.list ds) from rx) with
        | lst q1 q2 =>
          rename_i a' vs
          have jf : JokF K F1 (Ite K a') (enumD 0 ds) := fun F' H' s1 s2 => ylds_enum s2 (sqL_sub (s1.trans s2) q1) (dps_sub s1 q2)
          exact .inl ⟨a', vs, rfl, sqL_sub rl1.fh q1, k _ jf.ok fun _ => jf⟩
      · injection e2 with e2; injection e2 with e2; subst e2
        obtain ⟨a', vs, q1, q2, q3, q4, _, q6⟩ := rl1.own i ds e1
        rw [q1] at e3; cases e3
        have j : Jok K β1 F1 H1 (Ite K a') (enumD 0 ds) := fun β' F' H' u s => ylds_enum s (.inl (.inl (u.hh _ _ q2 q4))) (dps_sub u.ff q6)
        exact .inl ⟨a', vs, rfl, .inl (.inl q2), k _ j fun no => absurd e1 (no i ds e0)⟩
    | str z =>
      have h1'' : Pw K Z ρ σ (fun c => wx c σ) β1 F1 H1 (Res.lift S1 ((if Nat.ble z.length lim = true then some (strItems z) else none).map (enumD 0))) _ := h1'
      by_cases c : Nat.ble z.length lim = true
      · rw [if_pos c] at h1''
        have k := Pw.here (a := enumD 0 (strItems z)) h1'' rl1
        rcases rx with rx | ⟨i, xs, e0, e1, e2, e3⟩
        · cases (show Dp K F1 x (.str z) from rx)
          have jf : JokF K F1 (Itw z) (enumD 0 (strItems z)) := fun F' H' s1 s2 => ylds_enumS s2
          exact .inr ⟨z, rfl, k _ jf.ok fun _ => jf⟩
        · injection e2 with e2; cases e2
      · rw [if_neg c] at h1''; exact h1''.elim
    | _ => exact h1'.elim
theorem rngOk_of {a b : Int} (h : rngOk a b = true) : -1000000 ≤ a ∧ a ≤ 1000000 ∧ -1000000 ≤ b ∧ b ≤ 1000000 := by
  unfold rngOk at h
  simp only [Bool.and_eq_true, decide_eq_true_eq] at h
  omega
theorem rng_D2 {a b : E} {σ : L2.St} {H : Hp} {R : L2.It → Hp → Prop} (h : iD K wx P (.rng a b) σ H R) : iRng2 (tCons (tE K wx P a) (tCons (tE K wx P b) tNil)) σ H R := by
  obtain ⟨Z, β, F, ρ, S, rl, h⟩ := h
  simp only [evi] at h
  refine ⟨Z, β, F, ρ, S, rl, h.bind.mono fun w β1 F1 S1 H1 u1 rl1 ⟨_, _, h1⟩ x rx => ?_⟩
  refine ⟨Z, β1, F1, ρ, S1, rl1, h1.bind.mono fun u β2 F2 S2 H2 u2 rl2 ⟨_, _, h2⟩ y ry => ?_⟩
  cases w with
  | ref n => cases u <;> exact h2.elim
  | exc c => cases u <;> exact h2.elim
  | d dx =>
    cases u with
    | ref n => exact h2.elim
    | exc c => exact h2.elim
    | d dy =>
      cases dx with
      | int i =>
        cases dy with
        | int j =>
          have h3 : Pw K Z ρ σ (fun c => wx c σ) β2 F2 H2 (if rngOk i j = true then .ok (rngD i (j - i).toNat) S2 else .bad) _ := h2
          cases (show Dp K F1 x (.int i) from rx)
          cases (show Dp K F2 y (.int j) from ry)
          by_cases c : rngOk i j = true
          · rw [if_pos c] at h3
            have k := Pw.here h3 rl2
            have jf : JokF K F2 (Itr i (j - i).toNat) (rngD i (j - i).toNat) := fun F' H' s1 s2 => ylds_rng s2
            obtain ⟨c1, c2, c3, c4⟩ := rngOk_of c
            exact ⟨i, j, rfl, ⟨by omega, by omega, by omega, by omega⟩, k _ jf.ok fun _ => jf⟩
          · rw [if_neg c] at h3; exact h3.elim
        | _ => exact h2.elim
      | _ => exact h2.elim
theorem rng_D1 {b : E} {σ : L2.St} {H : Hp} {R : L2.It → Hp → Prop} (h : iD K wx P (.rng (.c (.int 0)) b) σ H R) : iRng1 (tCons (tE K wx P b) tNil) σ H R := by
  obtain ⟨Z, β, F, ρ, S, rl, h⟩ := h
  simp only [evi, ev] at h
  have h0 : Pw K Z ρ σ (fun c => wx c σ) β F H ((ev P b ρ S).bind fun u S2 => (match W.d (.int 0), u with
    | .d x, .d y => rngR S2 x y
    | _, _ => .bad)) _ := h
  refine ⟨Z, β, F, ρ, S, rl, h0.bind.mono fun u β2 F2 S2 H2 u2 rl2 ⟨_, _, h2⟩ y ry => ?_⟩
  cases u with
  | ref n => exact h2.elim
  | exc c => exact h2.elim
  | d dy =>
    cases dy with
    | int j =>
      have h3 : Pw K Z ρ σ (fun c => wx c σ) β2 F2 H2 (if rngOk 0 j = true then .ok (rngD 0 (j - 0).toNat) S2 else .bad) _ := h2
      cases (show Dp K F2 y (.int j) from ry)
      by_cases c : rngOk 0 j = true
      · rw [if_pos c] at h3
        have k := Pw.here h3 rl2
        have e0 : j - 0 = j := Int.sub_zero j
        rw [e0] at k
        have jf : JokF K F2 (Itr 0 j.toNat) (rngD 0 j.toNat) := fun F' H' s1 s2 => ylds_rng s2
        obtain ⟨c1, c2, c3, c4⟩ := rngOk_of c
        exact ⟨j, rfl, by omega, by omega, k _ jf.ok fun _ => jf⟩
      · rw [if_neg c] at h3; exact h3.elim
    | _ => exact h2.elim
end
end FO

set_option Elab.async false
set_option linter.all false
set_option maxHeartbeats 1000000
set_option maxRecDepth 100000
namespace FO
open PySem PySem.Spec PyProof.Rows L2
/-! ### zip(list, list) below an enumerate: its tuple may be out, alive or not -/
abbrev Zr (h : Heap) (z TI TO : Addr) (f0 : Value) (f : Bool) : Prop := h.get? z = some { cls := .type "zip", dict := none, data := .fields #[f0, .bool f, .bool false, .ref TI, .ref TO], slots := #[] }
/-- the tuple's mark: none is out, or one was given out -/
def Mk0 (f0 : Value) : Prop := f0 = .none ∨ ∃ T : Addr, f0 = rawInt T
section
variable {prog : Program} {w : World} {A : Around} {E : Value → Shared → Prop} {s : Shared} {z TI TO i1 i2 l1 l2 : Addr} {f0 : Value} {f : Bool} {k1 k2 : Nat} {xs ys : Array Value} {x y a b : Value}
theorem zfree_none {Q : Bool → Shared → Prop} (hz : Zr s.heap z TI TO .none f) (h : Q true s) : wpAny (model prog w) A (Builtin.SmallTypes.ownedTupleIsFree (.ref z)) Q E s := by
  unfold Builtin.SmallTypes.ownedTupleIsFree
  exact wpAny_bind (wpAny_field hz rfl (x := .none) rfl (wpAny_pure h))
theorem zfree_dead {T : Addr} {Q : Bool → Shared → Prop} (hz : Zr s.heap z TI TO (rawInt T) f) (hT : s.heap.get? T = none) (h : Q true s) : wpAny (model prog w) A (Builtin.SmallTypes.ownedTupleIsFree (.ref z)) Q E s := by
  unfold Builtin.SmallTypes.ownedTupleIsFree
  refine wpAny_bind (wpAny_field hz rfl (x := rawInt T) rfl ?_)
  show wpAny _ _ (loadIfAlive ((T : Int).toNat) >>= _) _ _ _
  have e : ((T : Int).toNat) = T := Int.toNat_natCast T
  rw [e]
  have al : ∀ {R : Option Obj → Shared → Prop}, R none s → wpAny (model prog w) A (loadIfAlive T) R E s := fun {R} hr => by
    have hr' : R (s.heap.get? T) s := by rw [hT]; exact hr
    exact fun _ _ _ => hr'
  refine wpAny_bind (al ?_)
  simp only [Option.isNone_none, if_true]
  exact wpAny_pure h
/-- the way with the owned tuple -/
theorem zown_item {Q : Value → Shared → Prop} (D : ZipApart z TI TO i1 i2 l1 l2) (hz : Zr s.heap z TI TO f0 f)
    (fr : ∀ {R : Bool → Shared → Prop} {E' : Value → Shared → Prop}, R true s → wpAny (model prog w) A (Builtin.SmallTypes.ownedTupleIsFree (.ref z)) R E' s)
    (hTI : IsPair s.heap TI (.ref i1) (.ref i2)) (hTO : IsPair s.heap TO a b) (h1 : s.heap.IsListIter i1 l1 k1) (h2 : s.heap.IsListIter i2 l2 k2) (hl1 : s.heap.IsList l1 xs) (hl2 : s.heap.IsList l2 ys) (hx : xs[k1]? = some x) (hy : ys[k2]? = some y)
    (hQ : ∀ m, Zr m z TI TO (rawInt s.heap.objs.size) false → IsPair m TO x y → m.IsListIter i1 l1 (k1 + 1) → m.IsListIter i2 l2 (k2 + 1) → IsPair m s.heap.objs.size x y → m.objs.size = s.heap.objs.size + 1 →
      (∀ c o, c ≠ z → c ≠ TO → c ≠ i1 → c ≠ i2 → s.heap.get? c = some o → m.get? c = some o) → Q (.ref s.heap.objs.size) { s with heap := m }) :
    wpAny (model prog w) A (Builtin.«zip.__next__» ⟨[.ref z], []⟩) (fun fin s' => ∃ v, fin = .done (.ret v) ∧ Q v s') E s := by
  obtain ⟨hp, g, d, tk, os⟩ := s
  show wpAny (model prog w) A (field (.ref z) 2 >>= _) _ _ _
  refine wpAny_bind (wpAny_field hz rfl (x := .bool false) rfl ?_)
  show wpAny (model prog w) A (field (.ref z) 3 >>= _) _ _ _
  refine wpAny_bind (wpAny_field hz rfl (x := .ref TI) rfl ?_)
  refine wpAny_bind (wpAny_seqItems hTI rfl ?_)
  show wpAny (model prog w) A (Builtin.SmallTypes.ownedTupleIsFree (.ref z) >>= _) _ _ _
  refine wpAny_bind (fr ?_)
  simp only [if_true]
  refine wpAny_bind (wpAny_rule ?_)
  refine wpAny_bind (wpAny_field hz rfl (x := .ref TO) rfl ?_)
  refine wpAny_bind (wpAny_setField_rec hz (by simp) fun m0 z0 b0 => ?_)
  replace z0 : Zr m0 z TI TO .ellipsis f := z0
  replace b0 : Heap.SameBut z hp m0 := b0
  refine wpAny_bind ?_
  simp only [List.zipIdx_cons, List.zipIdx_nil, List.forIn_cons, List.forIn_nil]
  refine wpAny_bind (wpAny_bind (wpAny_onRaise ?_))
  show wpAny (model prog w) A (Builtin.SmallTypes.nextOf (.ref i1) >>= _) _ _ ⟨m0, g, d, tk, os⟩
  refine wpAny_bind (wpAny_nextOf_list_item (s := ⟨m0, g, d, tk, os⟩) (h1.extBut b0.extBut D.i1z) (hl1.extBut b0.extBut D.l1z) hx fun m1 j1 b1 => wpAny_pure ?_)
  replace b1 : Heap.SameBut i1 m0 m1 := b1
  have u1 : IsPair m1 TO a b := b1.extBut _ _ D.TOi1 (b0.extBut _ _ D.TOz hTO)
  refine wpAny_bind (wpAny_seqItems (s := ⟨m1, g, d, tk, os⟩) u1 rfl ?_)
  refine wpAny_bind (wpAny_updateSeq_pair (s := ⟨m1, g, d, tk, os⟩) u1 fun m2 u2 b2 => ?_)
  replace u2 : IsPair m2 TO x b := u2
  replace b2 : Heap.SameBut TO m1 m2 := b2
  refine wpAny_bind (wpAny_letGo (wpAny_pure ?_))
  refine wpAny_bind (wpAny_bind (wpAny_onRaise ?_))
  show wpAny (model prog w) A (Builtin.SmallTypes.nextOf (.ref i2) >>= _) _ _ ⟨m2, g, d, tk, os⟩
  refine wpAny_bind (wpAny_nextOf_list_item (s := ⟨m2, g, d, tk, os⟩) (((h2.extBut b0.extBut D.i2z).extBut b1.extBut D.i12.symm).extBut b2.extBut D.TOi2.symm) (((hl2.extBut b0.extBut D.l2z).extBut b1.extBut D.l2i1).extBut b2.extBut D.l2TO) hy fun m3 j3 b3 => wpAny_pure ?_)
  replace b3 : Heap.SameBut i2 m2 m3 := b3
  have u3 : IsPair m3 TO x b := b3.extBut _ _ D.TOi2 u2
  refine wpAny_bind (wpAny_seqItems (s := ⟨m3, g, d, tk, os⟩) u3 rfl ?_)
  refine wpAny_bind (wpAny_updateSeq_pair (s := ⟨m3, g, d, tk, os⟩) u3 fun m4 u4 b4 => ?_)
  replace u4 : IsPair m4 TO x y := u4
  replace b4 : Heap.SameBut TO m3 m4 := b4
  refine wpAny_bind (wpAny_letGo (wpAny_pure (wpAny_pure ?_)))
  refine wpAny_bind (wpAny_seqItems (s := ⟨m4, g, d, tk, os⟩) u4 rfl ?_)
  refine wpAny_bind (wpAny_newTuple ?_)
  have sz : m4.objs.size = hp.objs.size := by rw [b4.1, b3.1, b2.1, b1.1, b0.1]
  have z4 : Zr m4 z TI TO .ellipsis f := b4.extBut _ _ D.TOz.symm (b3.extBut _ _ D.i2z.symm (b2.extBut _ _ D.TOz.symm (b1.extBut _ _ D.i1z.symm z0)))
  have kk : ∀ c o, c ≠ z → c ≠ TO → c ≠ i1 → c ≠ i2 → hp.get? c = some o → m4.get? c = some o := fun c o cz cT c1 c2 e =>
    b4.extBut _ _ cT (b3.extBut _ _ c2 (b2.extBut _ _ cT (b1.extBut _ _ c1 (b0.extBut _ _ cz e))))
  have j14 : m4.IsListIter i1 l1 (k1 + 1) := ((j1.extBut b2.extBut D.TOi1.symm).extBut b3.extBut D.i12).extBut b4.extBut D.TOi1.symm
  have j24 : m4.IsListIter i2 l2 (k2 + 1) := j3.extBut b4.extBut D.TOi2.symm
  have zlt : z < m4.objs.size := Heap.lt_size z4
  show wpAny (model prog w) A (Builtin.SmallTypes.ownedTupleHandOut (.ref z) (.ref m4.objs.size) >>= _) _ _ ⟨m4.push { cls := .type "tuple", data := .seq #[x, y] }, g, d, tk, os⟩
  refine wpAny_bind ?_
  unfold Builtin.SmallTypes.ownedTupleHandOut
  have z5 : Zr (m4.push { cls := .type "tuple", data := .seq #[x, y] }) z TI TO .ellipsis f := Heap.get?_push_of_some _ z4
  refine wpAny_bind (wpAny_setField_rec z5 (by simp) fun m6 z6 b6 => ?_)
  replace z6 : Zr m6 z TI TO (rawInt m4.objs.size) f := z6
  refine wpAny_setField_rec z6 (by simp) fun m7 z7 b7 => ?_
  replace z7 : Zr m7 z TI TO (rawInt m4.objs.size) false := z7
  replace b6 : Heap.SameBut z (m4.push { cls := .type "tuple", data := .seq #[x, y] }) m6 := b6
  replace b7 : Heap.SameBut z m6 m7 := b7
  have up : ∀ c o, c ≠ z → m4.get? c = some o → m7.get? c = some o := fun c o c1 e => b7.extBut _ _ c1 (b6.extBut _ _ c1 (Heap.get?_push_of_some _ e))
  have t7 : IsPair m7 m4.objs.size x y := b7.extBut _ _ (Nat.ne_of_gt zlt) (b6.extBut _ _ (Nat.ne_of_gt zlt) (Heap.get?_push_size _ rfl))
  have s7 : m7.objs.size = m4.objs.size + 1 := by rw [b7.1, b6.1, Heap.size_push]
  rw [sz] at z7 t7 s7
  refine wpAny_pure ⟨_, rfl, ?_⟩
  show Q (.ref m4.objs.size) ⟨m7, g, d, tk, os⟩
  rw [sz]
  exact hQ m7 z7 (up _ _ D.TOz u4) (j14.at fun o e => up _ o D.i1z e) (j24.at fun o e => up _ o D.i2z e) t7 s7 fun c o cz cT c1 c2 e => up c o cz (kk c o cz cT c1 c2 e)
theorem zown_end {Q : Fin → Shared → Prop} (hh : A.handled = none) (D : ZipApart z TI TO i1 i2 l1 l2) (hz : Zr s.heap z TI TO f0 f)
    (fr : ∀ {R : Bool → Shared → Prop} {E' : Value → Shared → Prop}, R true s → wpAny (model prog w) A (Builtin.SmallTypes.ownedTupleIsFree (.ref z)) R E' s)
    (hTI : IsPair s.heap TI (.ref i1) (.ref i2)) (hTO : IsPair s.heap TO a b) (h1 : s.heap.IsListIter i1 l1 k1) (h2 : s.heap.IsListIter i2 l2 k2) (hl1 : s.heap.IsList l1 xs) (hl2 : s.heap.IsList l2 ys) (hend : xs[k1]? = none ∨ ys[k2]? = none)
    (hE : ∀ m e, (∀ c o, c ≠ z → c ≠ TO → c ≠ i1 → c ≠ i2 → s.heap.get? c = some o → m.get? c = some o) → (∃ o, m.get? e = some o ∧ o.cls = .type "StopIteration") → E (.ref e) { s with heap := m }) :
    wpAny (model prog w) A (Builtin.«zip.__next__» ⟨[.ref z], []⟩) Q E s := by
  obtain ⟨hp, g, d, tk, os⟩ := s
  show wpAny (model prog w) A (field (.ref z) 2 >>= _) _ _ _
  refine wpAny_bind (wpAny_field hz rfl (x := .bool false) rfl ?_)
  show wpAny (model prog w) A (field (.ref z) 3 >>= _) _ _ _
  refine wpAny_bind (wpAny_field hz rfl (x := .ref TI) rfl ?_)
  refine wpAny_bind (wpAny_seqItems hTI rfl ?_)
  show wpAny (model prog w) A (Builtin.SmallTypes.ownedTupleIsFree (.ref z) >>= _) _ _ _
  refine wpAny_bind (fr ?_)
  simp only [if_true]
  refine wpAny_bind (wpAny_rule ?_)
  refine wpAny_bind (wpAny_field hz rfl (x := .ref TO) rfl ?_)
  refine wpAny_bind (wpAny_setField_rec hz (by simp) fun m0 z0 b0 => ?_)
  replace z0 : Zr m0 z TI TO .ellipsis f := z0
  replace b0 : Heap.SameBut z hp m0 := b0
  refine wpAny_bind ?_
  simp only [List.zipIdx_cons, List.zipIdx_nil, List.forIn_cons, List.forIn_nil]
  refine wpAny_bind (wpAny_bind (wpAny_onRaise ?_))
  show wpAny (model prog w) A (Builtin.SmallTypes.nextOf (.ref i1) >>= _) _ _ ⟨m0, g, d, tk, os⟩
  have n1 : m0.IsListIter i1 l1 k1 := h1.extBut b0.extBut D.i1z
  have n2 : m0.IsList l1 xs := hl1.extBut b0.extBut D.l1z
  cases hx : xs[k1]? with
  | none =>
    refine wpAny_bind (wpAny_nextOf_list_end (s := ⟨m0, g, d, tk, os⟩) hh n1 n2 hx fun q e hq he => ?_)
    replace hq : Heap.ExtBut i1 m0 q := hq
    obtain ⟨oe, hoe, hce⟩ := he
    replace hoe : q.get? e = some oe := hoe
    have zq : Zr q z TI TO .ellipsis f := hq _ _ D.i1z.symm z0
    have ez : e ≠ z := fun c => by subst c; rw [zq] at hoe; cases hoe; simp at hce
    refine wpAny_setField_rec (s := ⟨q, g, d, tk, os⟩) zq (by simp) fun q' _ bq => ?_
    replace bq : Heap.SameBut z q q' := bq
    exact hE q' e (fun c o cz cT c1 c2 v => bq.extBut _ _ cz (hq _ _ c1 (b0.extBut _ _ cz v))) ⟨oe, bq.extBut _ _ ez hoe, hce⟩
  | some x =>
    have hy : ys[k2]? = none := by
      rcases hend with c | c
      · rw [hx] at c; cases c
      · exact c
    refine wpAny_bind (wpAny_nextOf_list_item (s := ⟨m0, g, d, tk, os⟩) n1 n2 hx fun m1 j1 b1 => wpAny_pure ?_)
    replace b1 : Heap.SameBut i1 m0 m1 := b1
    have u1 : IsPair m1 TO a b := b1.extBut _ _ D.TOi1 (b0.extBut _ _ D.TOz hTO)
    refine wpAny_bind (wpAny_seqItems (s := ⟨m1, g, d, tk, os⟩) u1 rfl ?_)
    refine wpAny_bind (wpAny_updateSeq_pair (s := ⟨m1, g, d, tk, os⟩) u1 fun m2 u2 b2 => ?_)
    replace b2 : Heap.SameBut TO m1 m2 := b2
    refine wpAny_bind (wpAny_letGo (wpAny_pure ?_))
    refine wpAny_bind (wpAny_bind (wpAny_onRaise ?_))
    show wpAny (model prog w) A (Builtin.SmallTypes.nextOf (.ref i2) >>= _) _ _ ⟨m2, g, d, tk, os⟩
    refine wpAny_bind (wpAny_nextOf_list_end (s := ⟨m2, g, d, tk, os⟩) hh (((h2.extBut b0.extBut D.i2z).extBut b1.extBut D.i12.symm).extBut b2.extBut D.TOi2.symm) (((hl2.extBut b0.extBut D.l2z).extBut b1.extBut D.l2i1).extBut b2.extBut D.l2TO) hy fun q e hq he => ?_)
    replace hq : Heap.ExtBut i2 m2 q := hq
    obtain ⟨oe, hoe, hce⟩ := he
    replace hoe : q.get? e = some oe := hoe
    have zq : Zr q z TI TO .ellipsis f := hq _ _ D.i2z.symm (b2.extBut _ _ D.TOz.symm (b1.extBut _ _ D.i1z.symm z0))
    have ez : e ≠ z := fun c => by subst c; rw [zq] at hoe; cases hoe; simp at hce
    refine wpAny_setField_rec (s := ⟨q, g, d, tk, os⟩) zq (by simp) fun q' _ bq => ?_
    replace bq : Heap.SameBut z q q' := bq
    exact hE q' e (fun c o cz cT c1 c2 v => bq.extBut _ _ cz (hq _ _ c2 (b2.extBut _ _ cT (b1.extBut _ _ c1 (b0.extBut _ _ cz v))))) ⟨oe, bq.extBut _ _ ez hoe, hce⟩
/-- next of the zip, whatever its mark says -/
theorem znext_item {Q : Value → Shared → Prop} (D : ZipApart z TI TO i1 i2 l1 l2) (hz : Zr s.heap z TI TO f0 f) (hm : Mk0 f0)
    (hTI : IsPair s.heap TI (.ref i1) (.ref i2)) (hTO : IsPair s.heap TO a b) (h1 : s.heap.IsListIter i1 l1 k1) (h2 : s.heap.IsListIter i2 l2 k2) (hl1 : s.heap.IsList l1 xs) (hl2 : s.heap.IsList l2 ys) (hx : xs[k1]? = some x) (hy : ys[k2]? = some y)
    (hQ : ∀ m f0' f' a' b', Zr m z TI TO f0' f' → Mk0 f0' → IsPair m TI (.ref i1) (.ref i2) → IsPair m TO a' b' → m.IsListIter i1 l1 (k1 + 1) → m.IsListIter i2 l2 (k2 + 1) → IsPair m s.heap.objs.size x y → m.objs.size = s.heap.objs.size + 1 →
      (∀ c o, c ≠ z → c ≠ TO → c ≠ i1 → c ≠ i2 → s.heap.get? c = some o → m.get? c = some o) → Q (.ref s.heap.objs.size) { s with heap := m }) :
    wpAny (model prog w) A (Builtin.SmallTypes.nextOf (.ref z)) Q E s := by
  have hTy : s.TypeIs (.ref z) "zip" := ⟨_, hz, rfl⟩
  unfold Builtin.SmallTypes.nextOf
  refine wpAny_bind (wpAny_callSpecial?_slot (name := Str.ofString "__next__") hTy F.slot_zip_next (wpAny_call_entry F.slot_zip_next hTy F.entry_zip_next ?_ (F.args_zip_next_1 _)))
  have own : ∀ {A : Around} {E : Value → Shared → Prop}, (∀ {R : Bool → Shared → Prop} {E' : Value → Shared → Prop}, R true s → wpAny (model prog w) A (Builtin.SmallTypes.ownedTupleIsFree (.ref z)) R E' s) → wpAny (model prog w) A (Builtin.«zip.__next__» ⟨[.ref z], []⟩) (fun fin s' => ∃ v, fin = .done (.ret v) ∧ Q v s') E s := fun fr =>
    zown_item D hz fr hTI hTO h1 h2 hl1 hl2 hx hy fun m c1 c2 c3 c4 c5 c6 c7 => hQ m _ _ _ _ c1 (.inr ⟨_, rfl⟩) (c7 _ _ D.TIz D.TITO D.TIi1 D.TIi2 hTI) c2 c3 c4 c5 c6 c7
  have all : ∀ {A : Around} {E : Value → Shared → Prop}, wpAny (model prog w) A (Builtin.«zip.__next__» ⟨[.ref z], []⟩) (fun fin s' => ∃ v, fin = .done (.ret v) ∧ Q v s') E s := fun {A E} => by
    rcases hm with rfl | ⟨T, rfl⟩
    · exact own fun hr => zfree_none hz hr
    · cases hT : s.heap.get? T with
      | none => exact own fun hr => zfree_dead hz hT hr
      | some oT =>
        exact zip_next_item_held D hz hT hTI h1 h2 hl1 hl2 hx hy fun m c1 c3 c4 c5 c6 c7 => hQ m _ _ _ _ c1 (.inr ⟨_, rfl⟩) (c7 _ _ D.TIz D.TIi1 D.TIi2 hTI) (c7 _ _ D.TOz D.TOi1 D.TOi2 hTO) c3 c4 c5 c6 fun c o cz _ c1 c2 e => c7 c o cz c1 c2 e
  exact wpAny_mono all (fun fin s' ⟨v, e, q⟩ => ⟨v, e, wpAny_pure q⟩) fun _ _ h => h
theorem znext_end {Q : Value → Shared → Prop} (hh : A.handled = none) (D : ZipApart z TI TO i1 i2 l1 l2) (hz : Zr s.heap z TI TO f0 f) (hm : Mk0 f0)
    (hTI : IsPair s.heap TI (.ref i1) (.ref i2)) (hTO : IsPair s.heap TO a b) (h1 : s.heap.IsListIter i1 l1 k1) (h2 : s.heap.IsListIter i2 l2 k2) (hl1 : s.heap.IsList l1 xs) (hl2 : s.heap.IsList l2 ys) (hend : xs[k1]? = none ∨ ys[k2]? = none)
    (hE : ∀ m e, (∀ c o, c ≠ z → c ≠ TO → c ≠ i1 → c ≠ i2 → s.heap.get? c = some o → m.get? c = some o) → (∃ o, m.get? e = some o ∧ o.cls = .type "StopIteration") → E (.ref e) { s with heap := m }) :
    wpAny (model prog w) A (Builtin.SmallTypes.nextOf (.ref z)) Q E s := by
  have hTy : s.TypeIs (.ref z) "zip" := ⟨_, hz, rfl⟩
  unfold Builtin.SmallTypes.nextOf
  refine wpAny_bind (wpAny_callSpecial?_slot (name := Str.ofString "__next__") hTy F.slot_zip_next (wpAny_call_entry F.slot_zip_next hTy F.entry_zip_next ?_ (F.args_zip_next_1 _)))
  rcases hm with rfl | ⟨T, rfl⟩
  · exact zown_end hh D hz (fun hr => zfree_none hz hr) hTI hTO h1 h2 hl1 hl2 hend hE
  · cases hT : s.heap.get? T with
    | none => exact zown_end hh D hz (fun hr => zfree_dead hz hT hr) hTI hTO h1 h2 hl1 hl2 hend hE
    | some oT => exact zip_next_end_held hh D hz hT hTI h1 h2 hl1 hl2 hend fun m e k he => hE m e (fun c o cz _ c1 c2 q => k c o cz c1 c2 q) he
/-! ### enumerate over what draws as it likes -/
theorem enext_item {e it : Addr} {i : Nat} {old : Value} {Q : Option Value → Shared → Prop} (he : IsEnum s.heap e it i old)
    (inn : ∀ E', wpAny (model prog w) A.in1 (Builtin.SmallTypes.nextOf (.ref it)) (fun v s1 => IsEnum s1.heap e it i old ∧ ∀ m, IsEnumOut m e it ((i : Int) + 1) v s1.heap.objs.size →
      m.get? s1.heap.objs.size = some { cls := .type "tuple", data := .seq #[.int i s1.toks, v] } → m.objs.size = s1.heap.objs.size + 1 →
      (∀ b o, b ≠ e → s1.heap.get? b = some o → m.get? b = some o) → Q (some (.ref s1.heap.objs.size)) { s1 with heap := m, toks := s1.toks + 1 }) E' s) :
    wpAny (model prog w) A (pyNext (.ref e)) Q E s := by
  have hT : s.TypeIs (.ref e) "enumerate" := ⟨_, he, rfl⟩
  unfold pyNext
  refine wpAny_bind (wpAny_attempt (wpAny_callSpecial?_slot (name := Str.ofString "__next__") hT F.slot_enumerate_next (wpAny_call_entry F.slot_enumerate_next hT F.entry_enumerate_next ?_ (F.args_enumerate_next_1 _))))
  show wpAny (model prog w) A.in1 (field (.ref e) 2 >>= _) _ _ _
  refine wpAny_bind (wpAny_field he rfl (x := .ref it) rfl ?_)
  refine wpAny_bind (wpAny_mono (inn _) (fun v s1 r => ?_) fun _ _ h => h)
  obtain ⟨g1, hQ⟩ := r
  obtain ⟨h1, g, d, tk, os⟩ := s1
  show wpAny (model prog w) A.in1 (field (.ref e) 3 >>= _) _ _ ⟨h1, g, d, tk, os⟩
  refine wpAny_bind (wpAny_field g1 rfl (x := rawInt i) rfl ?_)
  show wpAny (model prog w) A.in1 (field (.ref e) 4 >>= _) _ _ ⟨h1, g, d, tk, os⟩
  refine wpAny_bind (wpAny_field g1 rfl (x := .none) rfl ?_)
  show wpAny (model prog w) A.in1 (mkInt i >>= _) _ _ ⟨h1, g, d, tk, os⟩
  refine wpAny_bind (wpAny_mkInt ?_)
  show wpAny (model prog w) A.in1 (setField (.ref e) 3 (rawInt ((i : Int) + 1)) >>= _) _ _ ⟨h1, g, d, tk + 1, os⟩
  refine wpAny_bind (wpAny_setField_rec g1 (by simp) fun h2 g2 b2 => ?_)
  replace b2 : Heap.SameBut e h1 h2 := b2
  replace g2 : IsEnum h2 e it ((i : Int) + 1) old := g2
  show wpAny (model prog w) A.in1 (setField (.ref e) 4 .none >>= _) _ _ ⟨h2, g, d, tk + 1, os⟩
  refine wpAny_bind (wpAny_setField_rec g2 (by simp) fun h3 g3 b3 => ?_)
  replace b3 : Heap.SameBut e h2 h3 := b3
  replace g3 : IsEnum h3 e it ((i : Int) + 1) old := g3
  show wpAny (model prog w) A.in1 (newTuple [.int i tk, v] >>= _) _ _ ⟨h3, g, d, tk + 1, os⟩
  refine wpAny_bind (wpAny_newTuple ?_)
  have g4 : IsEnum (h3.push { cls := .type "tuple", data := .seq #[.int i tk, v] }) e it ((i : Int) + 1) old := Heap.get?_push_of_some _ g3
  generalize hh : h3.push { cls := .type "tuple", data := .seq #[.int i tk, v] } = h4 at g4
  have sz : h3.objs.size = h1.objs.size := by rw [b3.1, b2.1]
  have elt : e < h1.objs.size := Heap.lt_size g1
  have t4 : h4.get? h1.objs.size = some { cls := .type "tuple", data := .seq #[.int i tk, v] } := by rw [← hh, ← sz]; exact Heap.get?_push_size _ rfl
  have s4 : h4.objs.size = h1.objs.size + 1 := by rw [← hh, Heap.size_push, sz]
  have k4 : ∀ b o, b ≠ e → h1.get? b = some o → h4.get? b = some o := fun b o hb q => by
    rw [← hh]; exact Heap.get?_push_of_some _ (b3.extBut b o hb (b2.extBut b o hb q))
  show wpAny (model prog w) A.in1 (Builtin.SmallTypes.ownedTupleIsFree (.ref e) >>= _) _ _ ⟨h4, g, d, tk + 1, os⟩
  rw [sz]
  refine wpAny_bind ?_
  unfold Builtin.SmallTypes.ownedTupleIsFree
  refine wpAny_bind (wpAny_field g4 rfl (x := .none) rfl (wpAny_pure ?_))
  simp only [if_true]
  refine wpAny_bind (wpAny_rule ?_)
  refine wpAny_bind (wpAny_field g4 rfl (x := old) rfl ?_)
  refine wpAny_bind (wpAny_setField_rec g4 (by simp) fun h5 g5 b5 => ?_)
  replace b5 : Heap.SameBut e h4 h5 := b5
  replace g5 : IsEnum h5 e it ((i : Int) + 1) v := g5
  show wpAny (model prog w) A.in1 (Builtin.SmallTypes.ownedTupleHandOut (.ref e) (.ref h1.objs.size) >>= _) _ _ ⟨h5, g, d, tk + 1, os⟩
  refine wpAny_bind ?_
  unfold Builtin.SmallTypes.ownedTupleHandOut
  refine wpAny_bind (wpAny_setField_rec g5 (by simp) fun h6 g6 b6 => ?_)
  replace b6 : Heap.SameBut e h5 h6 := b6
  replace g6 : IsEnumOut h6 e it ((i : Int) + 1) v h1.objs.size := g6
  refine wpAny_setField_rec g6 (by simp) fun h7 g7 b7 => ?_
  replace b7 : Heap.SameBut e h6 h7 := b7
  replace g7 : IsEnumOut h7 e it ((i : Int) + 1) v h1.objs.size := g7
  refine wpAny_bind (wpAny_letGo (wpAny_pure ⟨_, rfl, wpAny_pure (hQ h7 g7 ?_ ?_ ?_)⟩))
  · exact b7.extBut _ _ (Nat.ne_of_gt elt) (b6.extBut _ _ (Nat.ne_of_gt elt) (b5.extBut _ _ (Nat.ne_of_gt elt) t4))
  · show h7.objs.size = h1.objs.size + 1
    rw [b7.1, b6.1, b5.1, s4]
  · exact fun b o hb q => b7.extBut b o hb (b6.extBut b o hb (b5.extBut b o hb (k4 b o hb q)))
theorem enext_end {e it : Addr} {i : Int} {old : Value} {Q : Option Value → Shared → Prop} (he : IsEnum s.heap e it i old) {K : Heap → Prop}
    (inn : ∀ (Q' : Value → Shared → Prop) (E' : Value → Shared → Prop), (∀ m x, K m → (∃ o, m.get? x = some o ∧ o.cls = .type "StopIteration") → E' (.ref x) { s with heap := m }) → wpAny (model prog w) A.in1 (Builtin.SmallTypes.nextOf (.ref it)) Q' E' s)
    (hQ : ∀ m, K m → Q none { s with heap := m }) : wpAny (model prog w) A (pyNext (.ref e)) Q E s := by
  have hT : s.TypeIs (.ref e) "enumerate" := ⟨_, he, rfl⟩
  unfold pyNext
  refine wpAny_bind (wpAny_attempt (wpAny_callSpecial?_slot (name := Str.ofString "__next__") hT F.slot_enumerate_next (wpAny_call_entry F.slot_enumerate_next hT F.entry_enumerate_next ?_ (F.args_enumerate_next_1 _))))
  show wpAny (model prog w) A.in1 (field (.ref e) 2 >>= _) _ _ _
  refine wpAny_bind (wpAny_field he rfl (x := .ref it) rfl ?_)
  refine wpAny_bind (inn _ _ fun m x hk hx => ?_)
  obtain ⟨o, ho, hc⟩ := hx
  refine wpAny_bind (wpAny_isInstance (T := "StopIteration") (b := true) ⟨o, ho, hc⟩ isSubtype_stop ?_)
  exact wpAny_pure (hQ _ hk)
/-- enumerate(zip) begins -/
theorem meets_enz (z TI TO : Addr) :
    Meets (Builtin.«enumerate.__new__» ⟨[.type "enumerate", .ref z], []⟩) (fun _ R s => Zr s.heap z TI TO .none false ∧
      R (.ok (.ret (.ref s.heap.objs.size))) { s with heap := s.heap.push { cls := .type "enumerate", data := .fields #[.none, .bool false, .ref z, rawInt 0, .none, .none] } }) :=
  .of_wp fun prog w A R s h => by
    obtain ⟨hp, g, d, tk, os⟩ := s
    obtain ⟨hz, h⟩ := h
    have hsub := sub_enumerate
    have hz' : IsZip (Shared.heap ⟨hp, g, d, tk, os⟩) z TI TO .none := hz
    wp_walk using AutoSeq1.wpAny_loadPart' hz
    refine wpAny_stack_any fun st => wpAny_pure ?_
    split
    · rename_i c _ _ _ _ _
      cases (c == Value.type "enumerate")
      · wp_walk using AutoSeq1.wpAny_loadPart' hz, wpAny_pyIter_zip hz'
        exact ⟨_, rfl, h⟩
      · wp_walk using AutoSeq1.wpAny_loadPart' hz, wpAny_pyIter_zip hz'
        exact ⟨_, rfl, h⟩
    · wp_walk using AutoSeq1.wpAny_loadPart' hz, wpAny_pyIter_zip hz'
      exact ⟨_, rfl, h⟩
theorem call_enz {Q : Value → Shared → Prop} (hz : Zr s.heap z TI TO .none false)
    (h : ∀ m, IsEnum m s.heap.objs.size z 0 .none → m.objs.size = s.heap.objs.size + 1 → (∀ b o, s.heap.get? b = some o → m.get? b = some o) → Q (.ref s.heap.objs.size) { s with heap := m }) :
    wpAny (model prog w) A (call (.type "enumerate") [.ref z]) Q E s := by
  refine callType_new F.called_enumerate (by decide) (F.typeCall_enumerate_1 _) (F.newCall_enumerate_1 _) (fun obj => F.args_object_init_2 obj _) F.entry_enumerate_new (meets_enz z TI TO) ⟨hz, ?_⟩
  have he : IsEnum (s.heap.push { cls := .type "enumerate", data := .fields #[.none, .bool false, .ref z, rawInt 0, .none, .none] }) s.heap.objs.size z 0 .none := Heap.get?_push_size _ rfl
  show _ ∧ _
  exact ⟨⟨_, he, rfl⟩, h _ he (by rw [Heap.size_push]) fun b o q => Heap.get?_push_of_some _ q⟩
end
end FO

set_option Elab.async false
set_option linter.all false
set_option maxHeartbeats 1000000
set_option maxRecDepth 100000
namespace FO
open PySem PySem.Spec PyProof.Rows L2
/-- enumerate(zip(list, list)) -/
def Itz (K : PySem.W.Frag) (a1 a2 : Addr) : L2.It := ⟨fun i H => ∃ xs ys x y, SqL K H a1 xs ∧ SqL K H a2 ys ∧ xs[i]? = some x ∧ ys[i]? = some y,
  fun i H v H' => ∃ T1 T2 x y, v = .ref T2 ∧ H T1 = none ∧ H T2 = none ∧ T2 ≠ T1 ∧ H' = upd (upd H T1 (.tup [x, y])) T2 (.tup [.int (i : Nat), .ref T1]) ∧ (∀ xs, SqL K H a1 xs → xs[i]? = some x) ∧ ∀ ys, SqL K H a2 ys → ys[i]? = some y,
  fun i H => ∃ xs ys, SqL K H a1 xs ∧ SqL K H a2 ys ∧ (xs.length ≤ i ∨ ys.length ≤ i)⟩
structure Zst (e z TI TO i1 i2 a1 a2 : Addr) (i : Nat) (h : Heap) : Prop where
  en : ∃ old, IsEnum h e z ((i : Nat) : Int) old
  zi : ∃ f0 f, Zr h z TI TO f0 f ∧ Mk0 f0
  ti : IsPair h TI (.ref i1) (.ref i2)
  to : ∃ a b, IsPair h TO a b
  j1 : h.IsListIter i1 a1 i
  j2 : h.IsListIter i2 a2 i
theorem turn_enz {P : Program} {w : World} {K : PySem.W.Frag} {elts : List Expr} {kk : Nat} {tpos : Pos} {e z TI TO i1 i2 a1 a2 : Addr} (D : ZipApart z TI TO i1 i2 a1 a2) (hez : e ≠ z) (heT : e ≠ TO) (heI : e ≠ TI) (he1 : e ≠ i1) (he2 : e ≠ i2) :
    Turn P w K (.Tuple elts kk tpos) (Itz K a1 a2) [e, z, TI, TO, i1, i2] e (Zst e z TI TO i1 i2 a1 a2) where
  mem := by simp
  obj := fun i h st b hb => by
    obtain ⟨old, q1⟩ := st.en
    obtain ⟨f0, f, q2, _⟩ := st.zi
    obtain ⟨a, c, q4⟩ := st.to
    obtain ⟨o5, q5, _, d5⟩ := st.j1
    obtain ⟨o6, q6, _, d6⟩ := st.j2
    have e' : b = e ∨ b = z ∨ b = TI ∨ b = TO ∨ b = i1 ∨ b = i2 := by simpa using hb
    rcases e' with rfl | rfl | rfl | rfl | rfl | rfl
    · exact ⟨_, q1, fun v q => nomatch q⟩
    · exact ⟨_, q2, fun v q => nomatch q⟩
    · exact ⟨_, st.ti, fun v q => nomatch q⟩
    · exact ⟨_, q4, fun v q => nomatch q⟩
    · exact ⟨o5, q5, fun v q => by rw [d5] at q; cases q⟩
    · exact ⟨o6, q6, fun v q => by rw [d6] at q; cases q⟩
  keep := fun i h h' st k => by
    obtain ⟨old, q1⟩ := st.en
    obtain ⟨f0, f, q2, q3⟩ := st.zi
    obtain ⟨a, c, q4⟩ := st.to
    exact ⟨⟨old, k e (by simp) _ q1⟩, ⟨f0, f, k z (by simp) _ q2, q3⟩, k TI (by simp) _ st.ti, ⟨a, c, k TO (by simp) _ q4⟩, st.j1.at fun o q => k i1 (by simp) o q, st.j2.at fun o q => k i2 (by simp) o q⟩
  item := by
    intro X hP hw hK hc i pins s σ H E I hf st hg
    subst hP hw hK
    obtain ⟨old, q1⟩ := st.en
    obtain ⟨f0, f, q2, q3⟩ := st.zi
    obtain ⟨a, c, q4⟩ := st.to
    obtain ⟨xs, ys, x, y, sx, sy, hx, hy⟩ := hg
    obtain ⟨us, rx, px, _⟩ := I.list sx
    obtain ⟨vs, ry, py, _⟩ := I.list sy
    obtain ⟨u, hu, ru⟩ := rx.get hx
    obtain ⟨v, hv, rv⟩ := ry.get hy
    have ltE : e < s.heap.objs.size := Heap.lt_size q1
    refine enext_item q1 fun E' => znext_item D q2 q3 st.ti q4 st.j1 st.j2 px.isList py.isList (x := u) (y := v) (by simpa using hu) (by simpa using hv) fun m f0' f' a' b' c1 c2 c3 c4 c5 c6 c7 c8 c9 => ?_
    refine ⟨c9 e _ hez heT he1 he2 q1, fun m2 g2 t2 s2 k2 => ⟨_, rfl, wpAny_letOwnedTupleGo_enum (s := { s with heap := m2, toks := s.toks + 1 }) g2 fun m3 g3 b3 => ?_⟩⟩
    replace b3 : Heap.SameBut e m2 m3 := b3
    replace t2 : m2.get? m.objs.size = some { cls := .type "tuple", data := .seq #[.int i s.toks, .ref s.heap.objs.size] } := t2
    replace k2 : ∀ b o, b ≠ e → m.get? b = some o → m2.get? b = some o := k2
    have fp4 : ∀ b ∈ [z, TO, i1, i2], FpOk X pins H b := fun b hb => hf b (by
      have : b = z ∨ b = TO ∨ b = i1 ∨ b = i2 := by simpa using hb
      rcases this with rfl | rfl | rfl | rfl <;> simp)
    have new1 : ObjOk X.prog X.w (upd H s.heap.objs.size (.tup [x, y])) m s.heap.objs.size (.tup [x, y]) :=
      ⟨by show 2 ≤ sizeLine; decide, [u, v], .cons ru (.cons rv .nil), ⟨_, c7, rfl, _, rfl⟩⟩
    have I1 : Inv X pins σ (upd H s.heap.objs.size (.tup [x, y])) { s with heap := m, toks := s.toks } :=
      I.turnedNew (ch := [z, TO, i1, i2]) (fun b ob hb q => c9 b ob (fun r => hb (by simp [r])) (fun r => hb (by simp [r])) (fun r => hb (by simp [r])) (fun r => hb (by simp [r])) q) fp4 (Nat.le_refl _) new1
    have hsz : m.objs.size = s.heap.objs.size + 1 := c8
    have neE : e ≠ m.objs.size := Nat.ne_of_lt (by rw [hsz]; exact Nat.lt_succ_of_lt ltE)
    have t3 : m3.get? m.objs.size = some { cls := .type "tuple", data := .seq #[.int i s.toks, .ref s.heap.objs.size] } := (b3.2 _ (Ne.symm neE)).trans t2
    have new2 : ObjOk X.prog X.w (upd (upd H s.heap.objs.size (.tup [x, y])) m.objs.size (.tup [.int (i : Nat), .ref s.heap.objs.size])) m3 m.objs.size (.tup [.int (i : Nat), .ref s.heap.objs.size]) :=
      ⟨by show 2 ≤ sizeLine; decide, [.int i s.toks, .ref s.heap.objs.size], .cons ⟨_, rfl⟩ (.cons rfl .nil), ⟨_, t3, rfl, _, rfl⟩⟩
    have fpE : ∀ b ∈ [e], FpOk X pins (upd H s.heap.objs.size (.tup [x, y])) b := fun b hb => by
      have : b = e := by simpa using hb
      subst this
      obtain ⟨p0, p1⟩ := hf b (by simp)
      exact ⟨by rw [upd_ne (Nat.ne_of_lt ltE)]; exact p0, p1⟩
    have I2 : Inv X pins σ (upd (upd H s.heap.objs.size (.tup [x, y])) m.objs.size (.tup [.int (i : Nat), .ref s.heap.objs.size])) { s with heap := m3, toks := s.toks + 1 } :=
      I1.turnedNew (ch := [e]) (fun b ob hb q => (b3.2 b (fun r => hb (by simp [r]))).trans (k2 b ob (fun r => hb (by simp [r])) q)) fpE (Nat.le_refl _) new2
    have hN : H s.heap.objs.size = none := I.hok.fresh (Nat.le_refl _)
    have hN1 : H m.objs.size = none := I.hok.fresh (by rw [hsz]; exact Nat.le_succ _)
    have kk3 : ∀ b o, b ≠ e → m.get? b = some o → m3.get? b = some o := fun b o hb q => (b3.2 b hb).trans (k2 b o hb q)
    refine ⟨.ref m.objs.size, _, I2, rfl, ⟨s.heap.objs.size, m.objs.size, x, y, rfl, hN, hN1, Nat.ne_of_gt (by rw [hsz]; exact Nat.lt_succ_self _), rfl, fun ws q => by rw [I.list_inj q sx]; exact hx, fun ws q => by rw [I.list_inj q sy]; exact hy⟩, ?_, fun b hb => ?_⟩
    · have e1 : ((i + 1 : Nat) : Int) = (i : Int) + 1 := by omega
      exact ⟨⟨_, by rw [e1]; exact g3⟩, ⟨f0', f', kk3 _ _ (Ne.symm hez) c1, c2⟩, kk3 _ _ (Ne.symm heI) c3, ⟨a', b', kk3 _ _ (Ne.symm heT) c4⟩, c5.at fun o q => kk3 _ _ (Ne.symm he1) q, c6.at fun o q => kk3 _ _ (Ne.symm he2) q⟩
    · have ltz : z < s.heap.objs.size := Heap.lt_size q2
      have ltI : TI < s.heap.objs.size := Heap.lt_size st.ti
      have ltO : TO < s.heap.objs.size := Heap.lt_size q4
      have lt1 : i1 < s.heap.objs.size := by obtain ⟨_, q, _⟩ := st.j1; exact Heap.lt_size q
      have lt2 : i2 < s.heap.objs.size := by obtain ⟨_, q, _⟩ := st.j2; exact Heap.lt_size q
      have hb' : b < s.heap.objs.size := by
        have e' : b = e ∨ b = z ∨ b = TI ∨ b = TO ∨ b = i1 ∨ b = i2 := by simpa using hb
        rcases e' with rfl | rfl | rfl | rfl | rfl | rfl <;> assumption
      rw [upd_ne (Nat.ne_of_lt (by rw [hsz]; exact Nat.lt_succ_of_lt hb')), upd_ne (Nat.ne_of_lt hb')]
      exact (hf b hb).1
  done := by
    intro X hP hw hK hc i pins s σ H E I hf st hg
    subst hP hw hK
    obtain ⟨old, q1⟩ := st.en
    obtain ⟨f0, f, q2, q3⟩ := st.zi
    obtain ⟨a, c, q4⟩ := st.to
    obtain ⟨xs, ys, sx, sy, hl⟩ := hg
    obtain ⟨us, rx, px, _⟩ := I.list sx
    obtain ⟨vs, ry, py, _⟩ := I.list sy
    have l1 := rx.length
    have l2 := ry.length
    have fp4 : ∀ b ∈ [z, TO, i1, i2], FpOk X pins H b := fun b hb => hf b (by
      have : b = z ∨ b = TO ∨ b = i1 ∨ b = i2 := by simpa using hb
      rcases this with rfl | rfl | rfl | rfl <;> simp)
    have hend : us.toArray[i]? = none ∨ vs.toArray[i]? = none := by
      rcases hl with r | r
      · exact .inl (by simp; omega)
      · exact .inr (by simp; omega)
    refine enext_end q1 (K := fun m => ∀ b o, b ∉ [z, TO, i1, i2] → s.heap.get? b = some o → m.get? b = some o) (fun Q' E' hE => znext_end (I.ok.hd hc) D q2 q3 st.ti q4 st.j1 st.j2 px.isList py.isList hend fun m x k hx => hE m x (fun b o hb q => k b o (fun r => hb (by simp [r])) (fun r => hb (by simp [r])) (fun r => hb (by simp [r])) (fun r => hb (by simp [r])) q) hx) fun m hk => ⟨rfl, I.turnedL (t' := s.toks) hk fp4⟩
  self := fun A i s Q E st h => let ⟨_, he⟩ := st.en; wpAny_pyIter_enum he h
def iEnz (K : PySem.W.Frag) (ta : TA) : TI := fun σ H R => ta σ H fun vs H1 => ∃ a1 a2 xs ys, vs = [.ref a1, .ref a2] ∧ SqL K H1 a1 xs ∧ SqL K H1 a2 ys ∧ R (Itz K a1 a2) H1
theorem pi_enz {X : Cx} {e1 e2 : Expr} {ta : TA} {p pos p2 pos2 tpos : Pos} {elts : List Expr} {kk : Nat} (hg : Gl X "enumerate") (hm : X.mg "enumerate" = none) (hg2 : Gl X "zip") (hm2 : X.mg "zip" = none) (ha : PA X [e1, e2] ta) (hs : starEach [e1, e2] X.env = [(false, eval e1 X.env), (false, eval e2 X.env)]) (hb : (backTo pos2 (starEach [e2] X.env)).any (·.1) = false) (hs1 : starEach [e1, e2] X.env = (false, eval e1 X.env) :: starEach [e2] X.env) :
    PI X (.Tuple elts kk tpos) (.Call (.Name "enumerate" p) [.Call (.Name "zip" p2) [e1, e2] [] pos2] [] pos) (iEnz X.K ta) := by
  refine ⟨fun pins s σ H R I h => ?_⟩
  refine Call_ (ld_blt I hg hm boot_enumerate (PyProof.Rows.callWith_type1 ?_ rfl rfl))
  refine Calls.spliced_cons (Call_ (ld_blt I hg2 hm2 boot_zip (PyProof.Rows.callWith_type1 (thn (ha.run pos2 pins s σ H _ I h) fun us s1 ⟨vs, H1, I1, r1, q1⟩ => ?_) hs1 hb)))
  obtain ⟨a1, a2, xs, ys, rfl, sx, sy, q⟩ := q1
  cases r1 with
  | cons r ra =>
    cases ra with
    | cons r' rb =>
      cases rb
      cases r
      cases r'
      obtain ⟨its, rx, px, _⟩ := I1.list sx
      obtain ⟨jts, ry, py, _⟩ := I1.list sy
      have lt1 : a1 < s1.heap.objs.size := by obtain ⟨_, z, _⟩ := px.isList; exact Heap.lt_size z
      have lt2 : a2 < s1.heap.objs.size := by obtain ⟨_, z, _⟩ := py.isList; exact Heap.lt_size z
      refine zip_begins2 (begins_list a1 its.toArray) (begins_list a2 jts.toArray) px.isList py.isList fun m z1 t1 t2 g1 g2 sz k => Calls.spliced_nil ?_
      refine call_enz (s := { s1 with heap := m }) z1 fun m2 e1 sz2 k2 => wpAny_pyIter_enum e1 ?_
      have sz' : m.objs.size = s1.heap.objs.size + 5 := sz
      have I2 : Inv X pins σ H1 { s1 with heap := m2 } := I1.kept (t' := s1.toks) fun b o e => k2 b o (k b o e)
      have fresh : ∀ b, b ∈ [m.objs.size, s1.heap.objs.size + 4, s1.heap.objs.size + 2, s1.heap.objs.size + 3, s1.heap.objs.size, s1.heap.objs.size + 1] → FpOk X pins H1 b := fun b hb => by
        have hle : s1.heap.objs.size ≤ b := by
          have e' : b = m.objs.size ∨ b = s1.heap.objs.size + 4 ∨ b = s1.heap.objs.size + 2 ∨ b = s1.heap.objs.size + 3 ∨ b = s1.heap.objs.size ∨ b = s1.heap.objs.size + 1 := by simpa using hb
          rcases e' with r | r | r | r | r | r <;> rw [r]
          · rw [sz']; exact Nat.le_add_right _ _
          · exact Nat.le_add_right _ _
          · exact Nat.le_add_right _ _
          · exact Nat.le_add_right _ _
          · exact Nat.le_refl _
          · exact Nat.le_add_right _ _
        exact I1.fpOk hle (I1.hok.fresh hle)
      have D : ZipApart (s1.heap.objs.size + 4) (s1.heap.objs.size + 2) (s1.heap.objs.size + 3) s1.heap.objs.size (s1.heap.objs.size + 1) a1 a2 := by
        constructor <;> first
          | exact Nat.ne_of_lt (Nat.lt_of_lt_of_le lt1 (by omega))
          | exact Nat.ne_of_lt (Nat.lt_of_lt_of_le lt2 (by omega))
          | exact Nat.ne_of_lt (by omega)
          | exact Nat.ne_of_gt (by omega)
      refine ⟨m.objs.size, _, _, _, H1, rfl, I2, turn_enz (a1 := a1) (a2 := a2) D (Nat.ne_of_gt (by rw [sz']; omega)) (Nat.ne_of_gt (by rw [sz']; omega)) (Nat.ne_of_gt (by rw [sz']; omega)) (Nat.ne_of_gt (by rw [sz']; omega)) (Nat.ne_of_gt (by rw [sz']; omega)), ?_, fresh, q⟩
      exact ⟨⟨_, e1⟩, ⟨_, _, k2 _ _ z1, .inl rfl⟩, k2 _ _ t1, ⟨_, _, k2 _ _ t2⟩, ⟨_, k2 _ _ g1, rfl, rfl⟩, ⟨_, k2 _ _ g2, rfl, rfl⟩⟩
end FO

set_option Elab.async false
set_option linter.all false
set_option maxHeartbeats 1000000
set_option maxRecDepth 10000
namespace FO
open PySem PySem.Spec PyProof.Rows L2
section
variable {K : Kw} {wx : Wx} {P : Pg}
theorem zipD_get : ∀ (xs ys : List PyData) (i : Nat) (d : PyData), (zipD xs ys)[i]? = some d → ∃ x y, xs[i]? = some x ∧ ys[i]? = some y ∧ d = .tuple [x, y]
  | [], ys, i, d, h => by simp [zipD] at h
  | _ :: _, [], i, d, h => by simp [zipD] at h
  | x :: xs, y :: ys, 0, d, h => by
    simp [zipD] at h
    exact ⟨x, y, rfl, rfl, h.symm⟩
  | x :: xs, y :: ys, i + 1, d, h => by
    obtain ⟨u, v, h1, h2, h3⟩ := zipD_get xs ys i d (by simpa [zipD] using h)
    exact ⟨u, v, by simpa using h1, by simpa using h2, h3⟩
theorem zipD_len : ∀ (xs ys : List PyData), (zipD xs ys).length = xs.length ∨ (zipD xs ys).length = ys.length
  | [], ys => .inl rfl
  | _ :: _, [] => .inr rfl
  | x :: xs, y :: ys => by
    rcases zipD_len xs ys with h | h
    · exact .inl (by show (zipD xs ys).length + 1 = xs.length + 1; rw [h])
    · exact .inr (by show (zipD xs ys).length + 1 = ys.length + 1; rw [h])
theorem ylds_enz {F H : Hp} {a1 a2 : Addr} {vs us : List V} {xs ys : List PyData} (s : Sub F H) (h1 : SqL K H a1 vs) (h2 : SqL K H a2 us) (d1 : DpAll K F vs xs) (d2 : DpAll K F us ys) : Ylds K F H (Itz K a1 a2) (enumD 0 (zipD xs ys)) := by
  refine ⟨fun i d e => ?_, ⟨vs, us, h1, h2, ?_⟩⟩
  · obtain ⟨pr, p1, rfl⟩ := enumD_get _ 0 i d e
    obtain ⟨x, y, p2, p3, rfl⟩ := zipD_get xs ys i pr p1
    obtain ⟨v, q1, q2⟩ := dps_get d1 p2
    obtain ⟨u, q3, q4⟩ := dps_get d2 p3
    refine ⟨⟨vs, us, v, u, h1, h2, q1, q3⟩, fun y' H2 yl => ?_⟩
    obtain ⟨T1, T2, v', u', rfl, n1, n2, ne, rfl, hv, hu⟩ := yl
    have e1 := hv vs h1
    rw [q1] at e1
    cases e1
    have e2 := hu us h2
    rw [q3] at e2
    cases e2
    have e3 : ((0 + i : Nat) : Int) = ((i : Nat) : Int) := by omega
    rw [e3]
    obtain ⟨F2, nw2, dp2⟩ := nw_pair s n1 q2 q4
    obtain ⟨F3, nw3, dp3⟩ := nw_pair (x := .int (i : Nat)) nw2.fh (T := T2) (by rw [upd_ne ne]; exact n2) (.int _) dp2
    exact ⟨F3, nw2.trans nw3, dp3⟩
  · rw [enumD_len, dps_len d1, dps_len d2]
    rcases zipD_len xs ys with h | h
    · exact .inl (by rw [h]; exact Nat.le_refl _)
    · exact .inr (by rw [h]; exact Nat.le_refl _)
theorem enz_D {a b : E} {σ : L2.St} {H : Hp} {R : L2.It → Hp → Prop} (h : iD K wx P (.enz a b) σ H R) : iEnz K (tCons (tE K wx P a) (tCons (tE K wx P b) tNil)) σ H R := by
  obtain ⟨Z, β, F, ρ, S, rl, h⟩ := h
  simp only [evi] at h
  refine ⟨Z, β, F, ρ, S, rl, h.bind.mono fun w β1 F1 S1 H1 u1 rl1 ⟨_, _, h1⟩ x rx => ?_⟩
  refine ⟨Z, β1, F1, ρ, S1, rl1, h1.bind.mono fun u β2 F2 S2 H2 u2 rl2 ⟨_, _, h2⟩ y ry => ?_⟩
  cases w with
  | ref n => cases u <;> exact h2.elim
  | exc c => cases u <;> exact h2.elim
  | d dx =>
    cases dx with
    | list xs =>
      cases u with
      | ref n => exact h2.elim
      | exc c => exact h2.elim
      | d dy =>
        cases dy with
        | list ys =>
          have k := Pw.here (a := enumD 0 (zipD xs ys)) h2 rl2
          cases (show Dp K F1 x (.list xs) from rx) with
          | lst q1 q2 =>
            rename_i a1 vs
            cases (show Dp K F2 y (.list ys) from ry) with
            | lst q3 q4 =>
              rename_i a2 us
              have jf : JokF K F2 (Itz K a1 a2) (enumD 0 (zipD xs ys)) := fun F' H' s1 s2 => ylds_enz s2 (sqL_sub (u2.ff.trans (s1.trans s2)) q1) (sqL_sub (s1.trans s2) q3) (dps_sub (u2.ff.trans s1) q2) (dps_sub s1 q4)
              exact ⟨a1, a2, vs, us, rfl, sqL_sub (u2.ff.trans rl2.fh) q1, sqL_sub rl2.fh q3, k _ jf.ok fun _ => jf⟩
        | _ => exact h2.elim
    | _ => cases u <;> exact h2.elim
end
end FO

set_option Elab.async false
set_option linter.all false
set_option maxHeartbeats 1000000
set_option maxRecDepth 10000
namespace FO
open PySem PySem.Spec PyProof.Rows L2
section
variable {K : Kw} {Z : Bs} {β β' : List Addr} {F H F' H' : Hp} {ρ : Rho} {S S' : Sto} {σ : L2.St}
/-- a cell is let go: what stands there never changes again -/
theorem Rl.freeze (r : Rl K Z β F ρ S σ H) {n : Nat} {a : Addr} {ho : HO} {c : Cell} (hb : β[n]? = some a) (hc : S[n]? = some c) (hl : live c = true) (hh : H a = some ho) : Up β F H β (upd F a ho) H ∧ Rl K Z β (upd F a ho) ρ (S.set n .dead) σ H := by
  have hF : F a = none := r.st.out n a c hb hc hl
  have ff : Sub F (upd F a ho) := Sub.new hF
  have hin : a ∈ β := List.mem_of_getElem? hb
  have hnl : n < S.length := (List.getElem?_eq_some_iff.mp hc).1
  have bn : ∀ (m : Nat) (b : Addr), n ≠ m → β[m]? = some b → b ≠ a := fun m b hm h z => by
    subst z
    exact hm ((List.getElem?_inj (List.getElem?_eq_some_iff.mp hb).1 r.st.nd).mp (hb.trans h.symm))
  have fh : Sub (upd F a ho) H := fun b u e => by
    by_cases c : b = a
    · subst c; rw [upd_same] at e; cases e; exact hh
    · rw [upd_ne c] at e; exact r.fh b u e
  have u : Up β F H β (upd F a ho) H := ⟨⟨[], by simp, by simp⟩, ff, fun b u e nb => upd_ne fun (z : b = a) => nb (by rw [z]; exact hin), fun _ _ e _ => e, fun _ u e => ⟨u, e⟩⟩
  refine ⟨u, r.next u fh ⟨by simp [r.st.len], r.st.nd, fun m b c h1 h2 hl => ?_, fun m b c h1 h2 => ?_⟩⟩
  · by_cases c1 : n = m
    · subst c1
      rw [List.getElem?_set_self hnl] at h2
      cases h2
      cases hl
    · rw [List.getElem?_set_ne c1] at h2
      rw [upd_ne (bn m b c1 h1)]
      exact r.st.out m b c h1 h2 hl
  · by_cases c1 : n = m
    · subst c1
      rw [hb] at h1
      cases h1
      rw [List.getElem?_set_self hnl] at h2
      cases h2
      exact ⟨ho, hh⟩
    · rw [List.getElem?_set_ne c1] at h2
      exact (r.st.cell m b c h1 h2).mono ff (fun _ _ e => e) fun _ e => e
theorem Rl.thaw1 (r : Rl K Z β F ρ S σ H) {v : V} {w : W} {x : PyData} {S' : Sto} (hv : RepW K β F v w) (h : thaw1 S w = some (x, S')) : ∃ F', Up β F H β F' H ∧ Rl K Z β F' ρ S' σ H ∧ Dp K F' v x := by
  cases w with
  | d y => cases h; exact ⟨F, Up.refl, r, hv⟩
  | exc c => cases h
  | ref n =>
    obtain ⟨a, ha, rfl⟩ := hv
    have h : (match S[n]? with
      | some (.lst xs) => some (PyData.list xs, S.set n .dead)
      | _ => none) = some (x, S') := h
    cases q : S[n]? with
    | none => rw [q] at h; cases h
    | some c =>
      rw [q] at h
      cases c with
      | lst xs =>
        cases h
        obtain ⟨vs, k1, k2⟩ := r.st.cell n a _ ha q
        obtain ⟨u, rl⟩ := r.freeze ha q rfl k1
        exact ⟨_, u, rl, .lst (.inl (.inl upd_same)) (dps_sub u.ff k2)⟩
      | _ => cases h
theorem Rl.thawL : ∀ {ws : List W} {vs : List V} {F : Hp} {S S' : Sto} {xs : List PyData}, Rl K Z β F ρ S σ H → RepWs K β F vs ws → thawL ws S = some (xs, S') → ∃ F', Up β F H β F' H ∧ Rl K Z β F' ρ S' σ H ∧ DpAll K F' vs xs
  | [], _, F, S, S', xs, r, .nil, h => by cases h; exact ⟨F, Up.refl, r, .nil⟩
  | w :: ws, _, F, S, S', xs, r, .cons (a := v) (l₁ := vs) hv hs, h => by
    obtain ⟨⟨x, S1⟩, h1, h⟩ := Option.bind_eq_some_iff.mp (show ((FO.thaw1 S w).bind fun p => (FO.thawL ws p.2).map fun q => (p.1 :: q.1, q.2)) = some (xs, S') from h)
    obtain ⟨⟨ys, S2⟩, h2, h⟩ := Option.map_eq_some_iff.mp h
    cases h
    obtain ⟨F1, u1, r1, d1⟩ := r.thaw1 hv h1
    obtain ⟨F2, u2, r2, d2⟩ := Rl.thawL r1 (repWs_up u1 hs) h2
    exact ⟨F2, u1.trans u2, r2, .cons (dp_sub u2.ff d1) d2⟩
theorem Rl.thaw (r : Rl K Z β F ρ S σ H) {v : V} {w : W} {x : PyData} {S' : Sto} (hv : RepW K β F v w) (h : thaw S w = some (x, S')) : ∃ F', Up β F H β F' H ∧ Rl K Z β F' ρ S' σ H ∧ Dp K F' v x := by
  cases w with
  | d y => cases h; exact ⟨F, Up.refl, r, hv⟩
  | exc c => cases h
  | ref n =>
    obtain ⟨a, ha, rfl⟩ := hv
    have h : (match S[n]? with
      | some (.lst xs) => some (PyData.list xs, S.set n .dead)
      | some (.lstW ws) => (FO.thawL ws (S.set n .dead)).map fun p => (PyData.list p.1, p.2)
      | _ => none) = some (x, S') := h
    cases q : S[n]? with
    | none => rw [q] at h; cases h
    | some c =>
      rw [q] at h
      cases c with
      | lst xs =>
        cases h
        obtain ⟨vs, k1, k2⟩ := r.st.cell n a _ ha q
        obtain ⟨u, rl⟩ := r.freeze ha q rfl k1
        exact ⟨_, u, rl, .lst (.inl (.inl upd_same)) (dps_sub u.ff k2)⟩
      | lstW ws =>
        obtain ⟨⟨ys, S2⟩, h2, h⟩ := Option.map_eq_some_iff.mp h
        cases h
        obtain ⟨vs, k1, k2⟩ := r.st.cell n a _ ha q
        obtain ⟨u, rl⟩ := r.freeze ha q rfl k1
        obtain ⟨F2, u2, r2, d2⟩ := Rl.thawL rl (repWs_up u k2) h2
        exact ⟨F2, u.trans u2, r2, .lst (.inl (.inl (u2.ff _ _ upd_same))) d2⟩
      | _ => cases h
/-- an object that nothing names is taken away -/
def del (H : Hp) (D : Addr) : Hp := fun a => if a = D then none else H a
theorem del_ne {H : Hp} {D a : Addr} (h : a ≠ D) : del H D a = H a := if_neg h
theorem del_same {H : Hp} {D : Addr} : del H D D = none := if_pos rfl
theorem del_upd {H : Hp} {D : Addr} {o : HO} (h : H D = some o) : upd (del H D) D o = H := by
  funext a
  by_cases c : a = D
  · subst c; rw [upd_same]; exact h.symm
  · rw [upd_ne c, del_ne c]
theorem Rl.less {D : Addr} (r : Rl K Z β F ρ S σ H) (hb : D ∉ β) (hF : F D = none) (hZ : Z.H D = none) (hn : ∀ (j : Nat) (xs : List PyData), ρ[j]? = some (.own xs) → σ[j]? ≠ some (some (.ref D))) : Rl K Z β F ρ S σ (del H D) := by
  refine ⟨r.len, fun a u e => ?_, ⟨r.up.bb, r.up.ff, r.up.nf, fun a u e n => ?_, fun a u e => ?_⟩, ⟨r.st.len, r.st.nd, r.st.out, fun n a c h1 h2 => ?_⟩, r.val, fun j xs h => ?_, r.dist⟩
  · rw [del_ne (fun z => by rw [z, hF] at e; cases e)]; exact r.fh a u e
  · rw [del_ne (fun z => by rw [z, hZ] at e; cases e)]; exact r.up.hh a u e n
  · rw [del_ne (fun z => by rw [z, hZ] at e; cases e)]; exact r.up.tr a u e
  · have hne : a ≠ D := fun z => hb (z ▸ List.mem_of_getElem? h1)
    exact (r.st.cell n a c h1 h2).mono (Sub.refl F) (fun _ _ e => e) fun u e => by rw [del_ne hne]; exact e
  · obtain ⟨a, vs, e1, e2, e3⟩ := r.own j xs h
    have hne : a ≠ D := fun z => hn j xs h (by rw [e1, z])
    exact ⟨a, vs, e1, by rw [del_ne hne]; exact e2, e3⟩
end
end FO

set_option Elab.async false
set_option linter.all false
set_option maxHeartbeats 1000000
set_option maxRecDepth 10000
namespace FO
open PySem L2
theorem wipe_get (σ : St) : ∀ (vs : List Nat) (j : Nat), (wipe σ vs)[j]? = if j ∈ vs then (if j < σ.length then some none else none) else σ[j]?
  | [], j => by simp [wipe]
  | v :: vs, j => by
    unfold wipe
    by_cases c : v = j
    · subst c
      rw [if_pos (List.mem_cons_self)]
      by_cases h : v < σ.length
      · rw [if_pos h, List.getElem?_set_self (by rw [wipe_length]; exact h)]
      · rw [if_neg h, List.getElem?_eq_none (by rw [List.length_set, wipe_length]; omega)]
    · rw [List.getElem?_set_ne c, wipe_get σ vs j]
      by_cases h : j ∈ vs
      · rw [if_pos h, if_pos (List.mem_cons_of_mem _ h)]
      · rw [if_neg h, if_neg (by intro z; rcases List.mem_cons.mp z with z | z; exact c z.symm; exact h z)]
theorem wipe_wipe (σ : St) (vs : List Nat) : wipe (wipe σ vs) vs = wipe σ vs := by
  apply List.ext_getElem?
  intro j
  rw [wipe_get, wipe_get, wipe_length]
  by_cases h : j ∈ vs
  · rw [if_pos h, if_pos h]
  · rw [if_neg h, if_neg h]
mutual
theorem setT_out {K : PySem.W.Frag} {F : Hp} : ∀ {t : Tg} {v : V} {d : PyData} {σ σ' : St}, SetT K F t v d σ σ' → σ'.length = σ.length ∧ ∀ j, j ∉ tgOwn t → σ'[j]? = σ[j]?
  | _, _, _, _, _, .nm (i := i) _ => ⟨List.length_set, fun j hj => List.getElem?_set_ne (fun z => hj (by rw [← z]; exact List.mem_singleton.mpr rfl))⟩
  | _, _, _, _, _, .tp h => setTs_out h
theorem setTs_out {K : PySem.W.Frag} {F : Hp} : ∀ {ts : Tgs} {vs : List V} {ds : List PyData} {σ σ' : St}, SetTs K F ts vs ds σ σ' → σ'.length = σ.length ∧ ∀ j, j ∉ tgsOwn ts → σ'[j]? = σ[j]?
  | _, _, _, _, _, .nil => ⟨rfl, fun _ _ => rfl⟩
  | _, _, _, _, _, .cons h1 h2 => by
    obtain ⟨a1, a2⟩ := setT_out h1
    obtain ⟨b1, b2⟩ := setTs_out h2
    refine ⟨b1.trans a1, fun j hj => ?_⟩
    unfold tgsOwn at hj
    rw [List.mem_append] at hj
    rw [b2 j (fun z => hj (.inr z)), a2 j (fun z => hj (.inl z))]
end
theorem wipe_setT {K : PySem.W.Frag} {F : Hp} {t : Tg} {v : V} {d : PyData} {σ σ' : St} (h : SetT K F t v d (wipe σ (tgOwn t)) σ') : wipe σ' (tgOwn t) = wipe σ (tgOwn t) := by
  obtain ⟨h1, h2⟩ := setT_out h
  apply List.ext_getElem?
  intro j
  rw [wipe_get, h1, wipe_length]
  by_cases c : j ∈ tgOwn t
  · rw [if_pos c, wipe_get, if_pos c]
  · rw [if_neg c, h2 j c]
section
variable {K : Kw} {Z : Bs} {β β' : List Addr} {F H F' H' : Hp} {ρ : Rho} {S : Sto} {σ : St} {i : Nat}
theorem Rl.unset (r : Rl K Z β F ρ S σ H) (i : Nat) : Rl K Z β F (ρ.set i .un) S (σ.set i none) H := by
  have ne : ∀ {j : Nat} {s : Sl}, (ρ.set i .un)[j]? = some s → s ≠ .un → i ≠ j ∧ ρ[j]? = some s := fun {j s} h hs => by
    by_cases c : i = j
    · subst c
      by_cases hl : i < ρ.length
      · rw [List.getElem?_set_self hl] at h; cases h; exact absurd rfl hs
      · rw [List.getElem?_eq_none (by simpa using hl)] at h; cases h
    · rw [List.getElem?_set_ne c] at h; exact ⟨c, h⟩
  refine ⟨by simp [r.len], r.fh, r.up, r.st, fun j u h => ?_, fun j xs h => ?_, fun j k xs ys a hjk h1 h2 h3 h4 => ?_⟩
  · obtain ⟨c, h⟩ := ne h (by simp)
    rw [List.getElem?_set_ne c]; exact r.val j u h
  · obtain ⟨c, h⟩ := ne h (by simp)
    rw [List.getElem?_set_ne c]; exact r.own j xs h
  · obtain ⟨c1, h1⟩ := ne h1 (by simp)
    obtain ⟨c2, h2⟩ := ne h2 (by simp)
    rw [List.getElem?_set_ne c1] at h3
    rw [List.getElem?_set_ne c2] at h4
    exact r.dist j k xs ys a hjk h1 h2 h3 h4
theorem Rl.wipe (r : Rl K Z β F ρ S σ H) : ∀ vs : List Nat, Rl K Z β F (wipeR vs ρ) S (L2.wipe σ vs) H
  | [] => r
  | v :: vs => (Rl.wipe r vs).unset v
end
theorem Res.bind_assoc {α β γ : Type} (r : Res α) (f : α → Sto → Res β) (g : β → Sto → Res γ) : (r.bind f).bind g = r.bind fun a S => (f a S).bind g := by cases r <;> rfl
abbrev wF : Wx := fun _ _ _ => False
section
variable {K : Kw} {wx : Wx} {P : Pg}
/-- one item's turn -/
def oneR (P : Pg) (tg : Tg) (test elt : E) (ρ : Rho) (x : PyData) (S2 : Sto) : Res (Option PyData) := match asgT tg x (wipeR (tgOwn tg) ρ) with
  | none => .bad
  | some ρ' => ((ev P test ρ' S2).bind fun t S3 => match t with
    | .d (.bool true) => (ev P elt ρ' S3).bind fun w S4 => (match thaw S4 w with
      | some q => .ok (some q.1) q.2
      | none => .bad)
    | .d (.bool false) => .ok none S3
    | _ => .bad).noex
theorem comp_G {tg : Tg} {it : FO.It} {test elt : E} {σ : St} {H : Hp} {Q : VK} {k : W → List Addr → Hp → Sto → Hp → Prop} (h : ∃ Z β F ρ S, Rl K Z β F ρ S σ H ∧ Pw K Z ρ σ (fun c => wx c σ) β F H (ev P (.comp tg it test elt) ρ S) k)
    (fin : ∀ {Z : Bs} {ρ : Rho} {β1 β2 : List Addr} {F1 F2 H1 H2 : Hp} {S1 S2 : Sto} {D : Addr} {acc : List V} {accD : List PyData}, Rl K Z β1 F1 ρ S1 σ H1 → H1 D = none → Z.H D = none → (∀ (j : Nat) (xs : List PyData), ρ[j]? = some (.own xs) → σ[j]? ≠ some (some (.ref D))) → Rl K Z β2 F2 ρ S2 σ H2 → Up β1 F1 H1 β2 F2 H2 → H2 D = some (.lst acc) → F2 D = none → D ∉ β2 → DpAll K F2 acc accD → Pw K Z ρ σ (fun c => wx c σ) β1 F1 H1 (.ok (W.d (.list accD)) S2) k → Q (.ref D) H2) :
    tLc (iD K wx P it) (gT K tg) (tT K wF P test) (tE K wF P elt) (tgOwn tg) σ H Q := by
  obtain ⟨Z, β, F, ρ, S, rl, h⟩ := h
  simp only [ev] at h
  refine ⟨Z, β, F, ρ, S, rl, h.bind.mono fun ds β1 F1 S1 H1 u1 rl1 ⟨_, _, h1⟩ J jok _ D hD => ?_⟩
  have hlen : Nat.ble ds.length lim = true := by
    cases hb : Nat.ble ds.length lim with
    | true => rfl
    | false => rw [hb, if_neg Bool.false_ne_true] at h1; exact h1.elim
  rw [if_pos hlen] at h1
  have hdl : ds.length ≤ 1000000 := Nat.le_of_ble_eq_true hlen
  have h1 : Pw K Z ρ σ (fun c => wx c σ) β1 F1 H1 ((compL (oneR P tg test elt ρ) ds S1).bind fun ys S5 => .ok (.d (.list ([] ++ ys))) S5) k := h1
  have hZ : Z.H D = none := by
    cases e : Z.H D with
    | none => rfl
    | some o =>
      obtain ⟨o', q⟩ := rl1.up.tr D o e
      rw [hD] at q; cases q
  have noD : ∀ (j : Nat) (xs : List PyData), ρ[j]? = some (.own xs) → σ[j]? ≠ some (some (.ref D)) := fun j xs hj e => by
    obtain ⟨a, vs, k1, k2, _⟩ := rl1.own j xs hj
    rw [e] at k1
    cases k1
    rw [hD] at k2; cases k2
  have nb : ∀ {β' : List Addr} {F' H' : Hp} {S' : Sto}, Rl K Z β' F' ρ S' σ H' → H' D = none → D ∉ β' := fun r hh hm => by
    obtain ⟨o, e⟩ := r.st.there hm
    rw [hh] at e; cases e
  refine ⟨fun i m H2 => i ≤ ds.length ∧ m = ds.length - i ∧ ∃ β2 F2 S2 acc accD, Rl K Z β2 F2 ρ S2 σ H2 ∧ Up β1 F1 H1 β2 F2 H2 ∧ H2 D = some (.lst acc) ∧ F2 D = none ∧ D ∉ β2 ∧ DpAll K F2 acc accD ∧ accD.length ≤ i ∧
    Pw K Z ρ σ (fun c => wx c σ) β1 F1 H1 ((compL (oneR P tg test elt ρ) (ds.drop i) S2).bind fun ys S5 => .ok (.d (.list (accD ++ ys))) S5) k, ⟨ds.length, Nat.zero_le _, rfl, β1, F1, S1, [], [], ?_⟩, ?_⟩
  · refine ⟨rl1.extra (nb rl1 hD) (rl1.fh.none hD) hZ noD, ⟨⟨[], by simp, by simp⟩, Sub.refl F1, fun _ _ _ _ => rfl, fun a o e _ => by rw [upd_ne (ne_of_none e hD)]; exact e, fun a o e => ⟨o, by rw [upd_ne (ne_of_none e hD)]; exact e⟩⟩, upd_same, rl1.fh.none hD, nb rl1 hD, .nil, Nat.le_refl _, h1⟩
  · rintro i m H2 ⟨hi, rfl, β2, F2, S2, acc, accD, rl2, u2, hD2, hF2, hb2, hacc, hal, hp⟩
    obtain ⟨yl, ystop⟩ := jok β2 F2 H2 u2 rl2.fh
    by_cases hnl : ¬ i < ds.length
    · -- the end
      have ei : i = ds.length := by omega
      subst ei
      refine .inl ⟨ystop, ?_⟩
      rw [List.drop_length] at hp
      have hp : Pw K Z ρ σ (fun c => wx c σ) β1 F1 H1 (.ok (W.d (.list (accD ++ []))) S2) k := hp
      rw [List.append_nil] at hp
      exact fin rl1 hD hZ noD rl2 u2 hD2 hF2 hb2 hacc hp
    · have hlt : i < ds.length := Decidable.of_not_not hnl
      obtain ⟨x, hx⟩ : ∃ x, ds[i]? = some x := ⟨ds[i], List.getElem?_eq_getElem hlt⟩
      obtain ⟨go, ylds⟩ := yl i x hx
      have edrop : ds.drop i = x :: ds.drop (i + 1) := by
        rw [List.drop_eq_getElem_cons hlt]
        rw [List.getElem?_eq_getElem hlt] at hx
        cases hx; rfl
      rw [edrop] at hp
      have hp : Pw K Z ρ σ (fun c => wx c σ) β1 F1 H1 (((oneR P tg test elt ρ x S2).bind fun o S3 => (compL (oneR P tg test elt ρ) (ds.drop (i + 1)) S3).bind fun ys S4 => match o with
        | some y => .ok (y :: ys) S4
        | none => .ok ys S4).bind fun ys S5 => .ok (.d (.list (accD ++ ys))) S5) k := hp
      rw [Res.bind_assoc] at hp
      refine .inr ⟨go, _, fun H' nx => ⟨ds.length - (i + 1), by omega, nx⟩, fun y H3 yy => ?_⟩
      obtain ⟨F3, n3, dy⟩ := ylds y H3 yy
      have rl3 := rl2.nw n3
      have u3 := n3.up β2
      have hp' := hp
      unfold oneR at hp'
      cases ea : asgT tg x (wipeR (tgOwn tg) ρ) with
      | none => rw [ea] at hp'; exact hp'.elim
      | some ρ' =>
        rw [ea] at hp'
        dsimp only at hp'
        refine ⟨F3, x, rl3.fh, dy, asg_shp _ _ _ _ ea, fun σ' hσ => ⟨wipe_setT hσ, ?_⟩⟩
        have rlB : Rl K Z β2 F3 ρ' S2 σ' H3 := Rl.asg hσ ea (rl3.wipe (tgOwn tg))
        refine ⟨Z, β2, F3, ρ', S2, rlB, ?_⟩
        -- what the next turn asks
        have nextW : ∀ {β4 : List Addr} {F4 H4 : Hp} {S4 : Sto} {acc' : List V} {accD' : List PyData}, Up β2 F3 H3 β4 F4 H4 → Rl K Z β4 F4 ρ' S4 σ' H4 → DpAll K F4 acc' accD' → accD'.length ≤ i + 1 →
            Pw K Z ρ σ (fun c => wx c σ) β1 F1 H1 ((compL (oneR P tg test elt ρ) (ds.drop (i + 1)) S4).bind fun ys S5 => .ok (.d (.list (accD' ++ ys))) S5) k →
            i + 1 ≤ ds.length ∧ ds.length - (i + 1) = ds.length - (i + 1) ∧ ∃ β2 F2 S2 acc accD, Rl K Z β2 F2 ρ S2 σ (upd H4 D (.lst acc')) ∧ Up β1 F1 H1 β2 F2 (upd H4 D (.lst acc')) ∧ (upd H4 D (.lst acc')) D = some (.lst acc) ∧ F2 D = none ∧ D ∉ β2 ∧ DpAll K F2 acc accD ∧ accD.length ≤ i + 1 ∧
              Pw K Z ρ σ (fun c => wx c σ) β1 F1 H1 ((compL (oneR P tg test elt ρ) (ds.drop (i + 1)) S2).bind fun ys S5 => .ok (.d (.list (accD ++ ys))) S5) k := by
          intro β4 F4 H4 S4 acc' accD' u4 rl4 ha hl' hq
          have u24 : Up β2 F2 H2 β4 F4 H4 := u3.trans u4
          have rlo : Rl K Z β4 F4 ρ S4 σ H4 := rl2.next u24 rl4.fh rl4.st
          have hb4 : D ∉ β4 := u24.notin hD2 hb2
          have hF4 : F4 D = none := by rw [u24.nf _ _ hD2 hb2]; exact hF2
          have u14 : Up β1 F1 H1 β4 F4 H4 := u2.trans u24
          refine ⟨hlt, rfl, β4, F4, S4, acc', accD', rlo.extra hb4 hF4 hZ noD, ⟨u14.bb, u14.ff, u14.nf, fun a o e n => by rw [upd_ne (ne_of_none e hD)]; exact u14.hh a o e n, fun a o e => by rw [upd_ne (ne_of_none e hD)]; exact u14.tr a o e⟩, upd_same, hF4, hb4, ha, hl', hq⟩
        cases et : ev P test ρ' S2 with
        | bad => rw [et] at hp'; exact hp'.elim
        | ex c S' => rw [et] at hp'; exact hp'.elim
        | ok t S3 =>
          rw [et] at hp'
          intro β4 F4 H4 u4 rl4
          cases t with
          | ref n => exact hp'.elim
          | exc c => exact hp'.elim
          | d td =>
            cases td with
            | bool tb =>
              refine ⟨tb, rfl, ?_⟩
              cases tb with
              | false =>
                rw [if_neg Bool.false_ne_true]
                have hq : Pw K Z ρ σ (fun c => wx c σ) β1 F1 H1 (((compL (oneR P tg test elt ρ) (ds.drop (i + 1)) S3).bind fun ys S4 => .ok ys S4).bind fun ys S5 => .ok (.d (.list (accD ++ ys))) S5) k := hp'
                rw [Res.bind_assoc] at hq
                have hq' := nextW u4 rl4 (dps_sub (u3.trans u4).ff hacc) (Nat.le_succ_of_le hal) hq
                have eH : upd H4 D (.lst acc) = H4 := by
                  funext a
                  by_cases c : a = D
                  · subst c; rw [upd_same]; exact ((u3.trans u4).hh _ _ hD2 hb2).symm
                  · rw [upd_ne c]
                rw [eH] at hq'
                exact hq'
              | true =>
                rw [if_pos rfl]
                refine ⟨Z, β4, F4, ρ', S3, rl4, ?_⟩
                have hp2 : Pw K Z ρ σ (fun c => wx c σ) β1 F1 H1 ((((ev P elt ρ' S3).bind fun w S4 => (match thaw S4 w with
                  | some q => .ok (some q.1) q.2
                  | none => .bad)).noex).bind _) _ := hp'
                cases ee : ev P elt ρ' S3 with
                | bad => rw [ee] at hp2; exact hp2.elim
                | ex c S' => rw [ee] at hp2; exact hp2.elim
                | ok w S4 =>
                  rw [ee] at hp2
                  intro β5 F5 H5 u5 rl5 v rv
                  have hp3 : Pw K Z ρ σ (fun c => wx c σ) β1 F1 H1 ((((match thaw S4 w with
                    | some q => Res.ok (some q.1) q.2
                    | none => .bad)).noex).bind _) _ := hp2
                  cases eth : thaw S4 w with
                  | none => rw [eth] at hp3; exact hp3.elim
                  | some q =>
                    obtain ⟨yd, S6⟩ := q
                    rw [eth] at hp3
                    obtain ⟨F6, u6, rl6, dv⟩ := rl5.thaw rv eth
                    have u35 : Up β2 F3 H3 β5 F6 H5 := (u4.trans u5).trans u6
                    have hDa : H5 D = some (.lst acc) := (u3.trans u35).hh _ _ hD2 hb2
                    have hl1 := dps_len hacc
                    refine ⟨acc, hDa, Nat.lt_of_lt_of_le (show acc.length < 1000000 by omega) szl, ?_⟩
                    have hq : Pw K Z ρ σ (fun c => wx c σ) β1 F1 H1 (((compL (oneR P tg test elt ρ) (ds.drop (i + 1)) S6).bind fun ys S4 => .ok (yd :: ys) S4).bind fun ys S5 => .ok (.d (.list (accD ++ ys))) S5) k := hp3
                    rw [Res.bind_assoc] at hq
                    have e3 : (fun (ys : List PyData) (S5 : Sto) => (Res.ok (yd :: ys) S5).bind fun ys S5 => Res.ok (W.d (.list (accD ++ ys))) S5) = fun ys S5 => Res.ok (W.d (.list ((accD ++ [yd]) ++ ys))) S5 := by
                      funext ys S5
                      show Res.ok (W.d (.list (accD ++ yd :: ys))) S5 = _
                      rw [List.append_assoc]; rfl
                    rw [e3] at hq
                    exact nextW u35 rl6 (dps_app (dps_sub (u3.trans u35).ff hacc) (.cons dv .nil)) (by rw [List.length_append, List.length_singleton]; omega) hq
            | _ => exact hp'.elim
theorem comp_D {tg : Tg} {it : FO.It} {test elt : E} {σ : St} {H : Hp} {Q : VK} (h : tE K wx P (.comp tg it test elt) σ H Q) : tLc (iD K wx P it) (gT K tg) (tT K wF P test) (tE K wF P elt) (tgOwn tg) σ H Q := by
  refine comp_G (k := fun w β' F' _ H' => ∀ v, RepW K β' F' v w → Q v H') h fun {Z ρ β1 β2 F1 F2 H1 H2 S1 S2 D acc accD} rl1 hD hZ noD rl2 u2 hD2 hF2 hb2 hacc hp => ?_
  -- D is frozen
  have hs : Sub (upd F2 D (.lst acc)) H2 := fun a o e => by
    by_cases c : a = D
    · subst c; rw [upd_same] at e; rw [hD2]; exact e
    · rw [upd_ne c] at e; exact rl2.fh a o e
  have ff : Sub F2 (upd F2 D (.lst acc)) := Sub.new hF2
  have u3 : Up β1 F1 H1 β2 (upd F2 D (.lst acc)) H2 := ⟨u2.bb, u2.ff.trans ff, fun a o e n => by rw [upd_ne (ne_of_none e hD)]; exact u2.nf a o e n, u2.hh, u2.tr⟩
  have st3 : StOk K β2 (upd F2 D (.lst acc)) S2 H2 := ⟨rl2.st.len, rl2.st.nd, fun n a c k1 k2 hd => by rw [upd_ne (show a ≠ D from fun z => hb2 (by rw [← z]; exact List.mem_of_getElem? k1))]; exact rl2.st.out n a c k1 k2 hd, fun n a c k1 k2 => (rl2.st.cell n a c k1 k2).mono ff (fun _ _ e => e) fun _ e => e⟩
  have rl3 : Rl K Z β2 (upd F2 D (.lst acc)) ρ S2 σ H2 := rl1.next u3 hs st3
  exact hp β2 _ H2 u3 rl3 (.ref D) (Dp.lst (.inl (.inl upd_same)) (dps_sub ff hacc))
/-- a comprehension's list is new -/
theorem comp_N {tg : Tg} {it : FO.It} {test elt : E} {σ : St} {H : Hp} {Q : VK} (h : tN K wx P (.comp tg it test elt) σ H Q) : tLc (iD K wx P it) (gT K tg) (tT K wF P test) (tE K wF P elt) (tgOwn tg) σ H Q := by
  refine comp_G (k := fun w _ F' _ H' => ∃ xs, w = .d (.list xs) ∧ ∀ p vs, H' p = none → DpAll K F' vs xs → Q (.ref p) (upd H' p (.lst vs))) h fun {Z ρ β1 β2 F1 F2 H1 H2 S1 S2 D acc accD} rl1 hD hZ noD rl2 u2 hD2 hF2 hb2 hacc hp => ?_
  have rl3 := rl2.less hb2 hF2 hZ noD
  have u3 : Up β1 F1 H1 β2 F2 (del H2 D) := ⟨u2.bb, u2.ff, u2.nf, fun a o e n => by rw [del_ne (ne_of_none e hD)]; exact u2.hh a o e n, fun a o e => by rw [del_ne (ne_of_none e hD)]; exact u2.tr a o e⟩
  obtain ⟨xs, e, q⟩ := hp β2 _ _ u3 rl3
  cases e
  have r := q D acc del_same hacc
  rw [del_upd hD2] at r
  exact r
end
end FO

set_option Elab.async false
set_option linter.all false
set_option maxHeartbeats 1000000
set_option maxRecDepth 10000
namespace FO
open PySem PySem.Spec PyProof.Rows L2
/-! ### sorted(..) of a list or a tuple of strs -/
theorem rise_pw : ∀ (l : List Str) (p : Str), risingS p l = true → (p :: l).Pairwise fun a b => a.cps.toList ≤ b.cps.toList
  | [], p, _ => by simp
  | x :: r, p, h => by
    obtain ⟨h1, h2⟩ := Bool.and_eq_true_iff.mp (show (!ltCps x.cps.toList p.cps.toList && risingS x r) = true from h)
    have ih := rise_pw r x h2
    rw [ltCps_eq] at h1
    have hpx : p.cps.toList ≤ x.cps.toList := List.not_lt.mp (by simpa using h1)
    refine List.pairwise_cons.mpr ⟨fun b hb => ?_, ih⟩
    rcases List.mem_cons.mp hb with rfl | hb
    · exact hpx
    · exact List.le_trans hpx ((List.pairwise_cons.mp ih).1 b hb)
theorem sorted_pw {l : List Str} (h : sortedS l = true) : l.Pairwise fun a b => a.cps.toList ≤ b.cps.toList := by
  cases l with
  | nil => exact List.Pairwise.nil
  | cons x r => exact rise_pw r x h
theorem sortS_pw (l : List Str) : (sortS l).Pairwise fun a b => a.cps.toList ≤ b.cps.toList := by
  have h := List.pairwise_mergeSort (le := fun a b : Str => decide (a.cps.toList ≤ b.cps.toList)) (fun a b c h1 h2 => decide_eq_true (List.le_trans (of_decide_eq_true h1) (of_decide_eq_true h2)))
    (fun a b => by
      rcases List.le_total a.cps.toList b.cps.toList with h | h
      · rw [decide_eq_true h]; rfl
      · rw [decide_eq_true h, Bool.or_true]) l
  exact h.imp fun h => of_decide_eq_true h
theorem sort_one {l ss : List Str} (hp : l.Perm ss) (hs : sortedS l = true) : l = sortS ss := by
  refine List.Perm.eq_of_pairwise (le := fun a b : Str => a.cps.toList ≤ b.cps.toList) (fun a b _ _ h1 h2 => ?_) (sorted_pw hs) (sortS_pw ss) (hp.trans (List.mergeSort_perm ss _).symm)
  have := List.le_antisymm h1 h2
  cases a; cases b
  simpa using this
section
variable {prog : Program} {w : World} {A : Around} {E : Value → Shared → Prop} {s : Shared}
/-- the items of a list or a tuple, drawn into a new list -/
theorem collect_seq {l : Addr} {ts : List Value} {o : Obj} {m : Nat} {T : String} {Q : List Value → Shared → Prop} (hT : T = "list" ∨ T = "tuple") (hobj : s.heap.get? l = some o) (hcl : o.cls = .type T) (hdt : o.data = .seq ts.toArray m) (hle : ts.length ≤ sizeLine)
    (hq : Q ts { s with heap := (s.heap.push (seqObj "list" #[] 0)).update s.heap.objs.size (Obj.mapSeq (· ++ ts.toArray)) }) : wpAny (model prog w) A (collect (.ref l)) Q E s := by
  unfold collect
  refine wpAny_bind (wpAny_runValue (codeAny_builtin entry_proto_collect' ?_))
  show wpAny _ _ (do
    again (.builtin "list.__iadd__" ⟨[← newList [], .ref l], []⟩)) _ _ s
  refine wpAny_bind (wpAny_newList (wpAny_pure ⟨Code.quiet_builtin _ (by
    decide +kernel), codeAny_builtin entry_list_iadd' ?_⟩))
  show wpAny _ _ (Builtin.List.listExtendWith (.ref s.heap.objs.size) (.ref l)
    (.ref s.heap.objs.size)) _ _ { s with heap := s.heap.push (seqObj "list" #[] 0) }
  unfold Builtin.List.listExtendWith
  have hob2 : (s.heap.push (seqObj "list" #[] 0)).get? l = some o :=
    Heap.get?_push_of_some _ hobj
  have nw : (s.heap.push (seqObj "list" #[] 0)).get? s.heap.objs.size = some (seqObj "list" #[] 0) :=
    Heap.get?_push_size _ rfl
  refine wpAny_bind (wpAny_typeOf (T := T) ⟨o, hob2, hcl⟩ ?_)
  have hyes : (Value.type T == Value.type "list" || Value.type T == Value.type "tuple") = true := by
    rcases hT with rfl | rfl <;> rfl
  rw [if_pos (by rcases hT with rfl | rfl <;> simp)]
  refine wpAny_bind (listItems_at hob2 hdt ?_)
  refine wpAny_bind (listItems_at (xs := #[]) (n := 0) nw rfl ?_)
  rw [if_neg (by
    simp)]
  have hz : (#[] ++ ts.toArray : Array Value).size ≤ sizeLine + 1 := by
    simp only [Array.size_append, List.size_toArray, List.length_nil]
    omega
  refine wpAny_bind (listUpdate_at (xs := #[]) (n := 0) nw rfl ?_ (Nat.zero_le _) hz)
  refine wpAny_pure ?_
  show wpAny (model prog w) A (do
      let oo ← load s.heap.objs.size
      match oo.data with
      | .seq zs _ => pure zs.toList
      | _ => unsupported "internal:collect") Q E _
  refine wpAny_bind (wpAny_load (get?_update_seq nw _) ?_)
  show wpAny _ _ (pure ((#[] : Array Value) ++ ts.toArray).toList) Q E _
  have et : ((#[] : Array Value) ++ ts.toArray).toList = ts := by simp
  rw [et]
  exact wpAny_pure hq
/-- sorted(..) -/
theorem sorted_seq {l : Addr} {ts : List Value} {ss : List Str} {o : Obj} {m : Nat} {T : String} {Q : Value → Shared → Prop} (hT : T = "list" ∨ T = "tuple") (hobj : s.heap.get? l = some o) (hcl : o.cls = .type T) (hdt : o.data = .seq ts.toArray m) (hS : StrsAre ts ss) (h64 : ts.length < 64)
    (hq : ∀ out : Array Value, StrsAre out.toList (sortS ss) → Q (.ref (s.heap.objs.size + 1)) { s with heap := sortedAll s.heap ts out }) : wpAny (model prog w) A (call (.builtin "sorted") [.ref l]) Q E s := by
  refine Calls.call_function_entry kind_sorted plain_sorted entry_sorted (args_sorted1 _) ?_
  unfold Builtin.«sorted»
  refine wpAny_bind (m := checkCount "sorted" 1 1 _) (wpAny_pure ?_)
  have hle : ts.length ≤ sizeLine := by rw [sizeLine_eq]; omega
  refine wpAny_bind (collect_seq hT hobj hcl hdt hle ?_)
  refine wpAny_bind (wpAny_newList ?_)
  have sz : ((s.heap.push (seqObj "list" #[] 0)).update s.heap.objs.size
      (Obj.mapSeq (· ++ ts.toArray))).objs.size = s.heap.objs.size + 1 := by
    rw [Heap.size_update, size_push']
  have lay : (((s.heap.push (seqObj "list" #[] 0)).update s.heap.objs.size
      (Obj.mapSeq (· ++ ts.toArray))).push (seqObj "list" ts.toArray 0)).get? (s.heap.objs.size + 1) = some (seqObj "list" ts.toArray 0) := by
    rw [← sz]
    exact Heap.get?_push_size _ rfl
  show wpAny _ _ _ _ _ { s with heap := ((s.heap.push (seqObj "list" #[] 0)).update s.heap.objs.size
    (Obj.mapSeq (· ++ ts.toArray))).push (seqObj "list" ts.toArray 0) }
  rw [sz]
  have hkk : ∀ (v1 v2 : Value) (rest : List Value), ts = v1 :: v2 :: rest → keyKind' (v1 :: v2 :: rest).toArray = pure oneType' := fun v1 v2 rest e => keyKind_strs (by rw [← e]; exact hS)
  refine wpAny_bind (wpAny_holding (wpAny_call_entry slot_list_sort ⟨_, lay, rfl⟩ entry_list_sort
    (list_sort_treeK strKind_oneLt lay hS.keysOf hkk h64 fun st' hp hs => ⟨_, rfl, ?_⟩) (args_list_sort _)))
  obtain ⟨ss', h1, h2, h3⟩ := sorted_out_str hS hp hs
  rw [sort_one h2 h3] at h1
  exact wpAny_pure ⟨_, rfl, hq _ h1⟩
end
end FO

set_option Elab.async false
set_option linter.all false
set_option maxHeartbeats 3200000
set_option maxRecDepth 100000
namespace FO
open PySem PySem.Spec PyProof.Rows
/-! ### set(..) of a list of strs -/
def memB (l : List Str) (k : Str) : Bool := l.any (· == k)
theorem dedup_snoc (l : List Str) (x : Str) : (dedup (l ++ [x])).length = if memB l x then (dedup l).length else (dedup l).length + 1 := by
  unfold dedup memB
  rw [List.eraseDups_append]
  by_cases h : x ∈ l
  · have h1 : (l.any (· == x)) = true := List.any_eq_true.mpr ⟨x, h, by simp⟩
    rw [h1, if_pos rfl]
    have : [x].removeAll l = [] := by simp [List.removeAll, h]
    rw [this]; simp
  · have h1 : (l.any (· == x)) = false := by
      rw [Bool.eq_false_iff]
      intro z
      obtain ⟨y, hy, e⟩ := List.any_eq_true.mp z
      have e : y = x := by simpa using e
      exact h (e ▸ hy)
    rw [h1, if_neg (by simp)]
    have : [x].removeAll l = [x] := by simp [List.removeAll, h]
    rw [this]
    simp [List.eraseDups_cons]
theorem mem_snoc (l : List Str) (x k : Str) : memB (l ++ [x]) k = (memB l k || decide (k = x)) := by
  unfold memB
  rw [List.any_append]
  by_cases e : k = x
  · subst e; simp
  · have hb : (x == k) = false := beq_eq_false_iff_ne.mpr fun z => e z.symm
    simp [hb, e]
theorem take_snoc {xs : List Str} {i : Nat} (h : i < xs.length) : xs.take (i + 1) = xs.take i ++ [xs.getD i Str.empty] := by
  rw [List.take_add_one]
  have : xs[i]? = some xs[i] := List.getElem?_eq_getElem h
  rw [this, List.getD_eq_getElem?_getD, this]
  rfl
theorem dedup_leN : ∀ (n : Nat) (l : List Str), l.length ≤ n → l.eraseDups.length ≤ l.length
  | _, [], _ => by simp
  | 0, _ :: _, h => by simp at h
  | n + 1, a :: r, h => by
    rw [List.eraseDups_cons, List.length_cons, List.length_cons]
    have h1 := List.length_filter_le (fun b => !b == a) r
    have h2 := dedup_leN n (r.filter fun b => !b == a) (by rw [List.length_cons] at h; omega)
    omega
theorem dedup_le (l : List Str) : (dedup l).length ≤ l.length := dedup_leN _ l (Nat.le_refl _)
section
variable {prog : Program} {w : World} {A : Around} {R : Result → Shared → Prop} {it : Addr} {fp wr : List Addr} {G : Array GenState → Array GenState → Prop} {n : Nat} {P : Nat → Value → Prop} {St : Nat → Shared → Prop}
theorem loop_strs (W : WalksS prog w A.in1 it fp wr G n P St) (D : Addr) (hD : D ∉ fp) (xs : List Str) (hsz : xs.length = n) (hb : n + 1 < scanBound) (hv : ∀ i v, P i v → ∃ t, v = .str (xs.getD i Str.empty) t) :
    ∀ (k i : Nat) (s : Shared), n - i = k → i ≤ n → St i s → s.heap.SetOf (PySem.strKind prog w) D (memB (xs.take i)) (dedup (xs.take i)).length →
      (∀ s', Moved (D :: wr) G s s' → s'.heap.SetOf (PySem.strKind prog w) D (memB (xs.take n)) (dedup (xs.take n)).length → R (.ok (.ret .none)) s') →
      codeAny (model prog w) A (.builtin "set.update.loop" ⟨[.ref D, .ref it], []⟩) R s := by
  have hDw : D ∉ wr := fun z => hD (W.sub _ z)
  have up : ∀ b ∈ wr, b ∈ D :: wr := fun b z => List.mem_cons_of_mem _ z
  have kept : ∀ {s s' : Shared} {S : Str → Bool} {m : Nat}, s.heap.SetOf (PySem.strKind prog w) D S m → (∀ o, s.heap.get? D = some o → s'.heap.get? D = some o) → s'.heap.SetOf (PySem.strKind prog w) D S m := fun {s s' S m} h k => by
    obtain ⟨o, es, ep, tb, ho, rest⟩ := h
    exact ⟨o, es, ep, tb, k o ho, rest⟩
  intro k
  induction k with
  | zero =>
    intro i s hk hi st hS hR
    obtain rfl : i = n := by omega
    refine codeAny_builtin PyProof.Rows.F.entry_set_update_loop ?_
    rw [Around.under_plainId PyProof.Rows.F.plain_set_update_loop _]
    show wpAny _ A.in1 (pyNext (.ref it) >>= _) _ _ s
    refine wpAny_bind (W.done s _ _ st fun s' mv => ?_)
    exact wpAny_pure (hR s' (mv.mono up) (kept hS fun o e => mv.heap D _ hDw e))
  | succ k ih =>
    intro i s hk hi st hS hR
    have hlt : i < n := by omega
    refine codeAny_builtin PyProof.Rows.F.entry_set_update_loop ?_
    rw [Around.under_plainId PyProof.Rows.F.plain_set_update_loop _]
    show wpAny _ A.in1 (pyNext (.ref it) >>= _) _ _ s
    refine wpAny_bind (W.item i s _ _ hlt st fun v s' hP st' mv => ?_)
    obtain ⟨t, rfl⟩ := hv i v hP
    have hS' := kept (s' := s') hS fun o e => mv.heap D _ hDw e
    show wpAny _ A.in1 (holding [Value.str (xs.getD i Str.empty) t] (setAdd D (.str (xs.getD i Str.empty) t))
      >>= _) _ _ s'
    refine wpAny_bind (wpAny_holding ?_)
    unfold setAdd
    refine wpAny_holding ?_
    refine wpAny_bind ((PySem.strKind prog w).pyHash (k := xs.getD i Str.empty) (strKind_is _ _ _ _) ?_)
    have room : (dedup (xs.take i)).length + 1 < scanBound := by
      have h1 := dedup_le (xs.take i)
      have h2 := List.length_take_le i xs
      omega
    refine wpAny_setAddHashed_of (knd := PySem.strKind prog w) (s := { s' with toks := s'.toks + 1 }) (strKind_is _ _ _ _) rfl hS' room fun h2 same hS2 => ?_
    have et := take_snoc (xs := xs) (i := i) (by omega)
    have nxt : h2.SetOf (PySem.strKind prog w) D (memB (xs.take (i + 1))) (dedup (xs.take (i + 1))).length := by
      refine SetOf_congr hS2 (fun k' => ?_) ?_
      · rw [et, mem_snoc]
      · rw [et, dedup_snoc]
    refine wpAny_pure ⟨plainId_quiet PyProof.Rows.F.plain_set_update_loop _, ih (i + 1) _ (by omega) hlt (W.frame _ s' _ _ st' (Nat.le_succ _) fun b z o e => ?_) nxt fun s2 mv2 hS3 => ?_⟩
    · rw [same.2 b fun q : b = D => hD (q ▸ z)]
      exact e
    · refine hR s2 (Moved.trans W.gtrans ((mv.mono up).then_heap (Nat.le_succ _) fun b o z e => ?_) mv2) hS3
      rw [same.2 b fun q : b = D => z (q ▸ List.mem_cons_self)]
      exact e
end
section
variable {prog : Program} {w : World} {A : Around} {E : Value → Shared → Prop} {s : Shared}
abbrev newSet (led : Bool) : Obj := { cls := .type "set", dict := none, data := .set #[] 0 (.fresh 0 0 led) }
theorem set_of_strs {l : Addr} {items : Array Value} {xs : List Str} {Q : Value → Shared → Prop} (hh : A.handled = none) (hl : s.heap.IsList l items) (hi : StrsAre items.toList xs) (hb : xs.length + 1 < scanBound)
    (h : ∀ (h' : Heap) (tk : Nat), h'.SetOf (PySem.strKind prog w) s.heap.objs.size (memB xs) (dedup xs).length → (∀ b o, b < s.heap.objs.size → s.heap.get? b = some o → h'.get? b = some o) → Q (.ref s.heap.objs.size) { s with heap := h', toks := tk }) :
    wpAny (model prog w) A (call (.type "set") [.ref l]) Q E s := by
  have hsz : xs.length = items.size := by rw [← StrsAre.len_eq hi, Array.length_toList]
  obtain ⟨c0, tl0, hmro⟩ := PySem.F.called_set.mro
  have made := PySem.F.called_set.made
  have subt := PySem.F.called_set.sub
  refine wpAny_call (codeAny_of_tree ?_)
  show wpAny _ _ (callAny (.type "set") _) _ _ _
  refine wpAny_pure ⟨Code.quiet_builtin _ (by
    decide +kernel), codeAny_builtin PySem.F.entry_type_call ?_⟩
  rw [Around.under_plain (weight_type_call_type "set" [.ref l] [])
    rfl]
  have nt := PySem.F.called_set.notType
  have cc := PySem.F.called_set.canCreate
  have tc := PySem.F.typeCall_set_1 (.ref l)
  repeat (any_goals (first
    | assumption
    | wp_step))
  refine codeAny_mono (code_set_new_1 (.ref l) (E := E) (Q₁ := fun ob s1 => ∃ led : Bool, ob = .ref s.heap.objs.size ∧ s1 = { s with heap := s.heap.push (newSet led) }) fun led => ⟨led, rfl, rfl⟩) fun r s1 hr => ?_
  cases r with
  | error e => exact hr
  | ok fl =>
    cases fl with
    | ret ob =>
      obtain ⟨led, rfl, rfl⟩ := hr
      have at0 : (s.heap.push (newSet led)).get? s.heap.objs.size = some (newSet led) := Heap.get?_push_size _ rfl
      have ty : Shared.TypeIs { s with heap := s.heap.push (newSet led) } (.ref s.heap.objs.size) "set" := ⟨_, at0, rfl⟩
      have il := PySem.F.called_set.init.lookup
      have ib := PySem.F.called_set.init.bind (.ref s.heap.objs.size)
      repeat (any_goals (first
        | assumption
        | wp_step))
      refine codeAny_mono (codeAny_call_builtin (R := wants (fun r s2 => r = .none ∧ ∃ h' tk, s2 = { s with heap := h', toks := tk } ∧ h'.SetOf (PySem.strKind prog w) s.heap.objs.size (memB xs) (dedup xs).length ∧
          ∀ b o, b < s.heap.objs.size → s.heap.get? b = some o → h'.get? b = some o) E) PySem.F.called_set.init.plain PySem.F.entry_set_init (check_set_init_1 ty ?_)) fun r2 s2 hr2 => ?_
      · obtain ⟨ol, hol, hcl, nl, hdl⟩ := hl
        obtain ⟨ocls, odict, odata, oslots⟩ := ol
        simp only at hcl hdl
        subst hcl
        subst hdl
        have hol2 : (s.heap.push (newSet led)).get? l = some { cls := .type "list", dict := odict, data := .seq items nl, slots := oslots } :=
          Heap.get?_push_of_some _ hol
        have n1 := PySem.F.sub_list_set
        have n2 := PySem.F.sub_list_frozenset
        have n3 : (Value.type "list" == Value.type "dict") = false := by
          decide
        have isl : (s.heap.push (newSet led)).IsList l items := ⟨_, hol2, rfl, nl, rfl⟩
        unfold Builtin.«set.__init__» noKeywords Builtin.Frozenset.updateFrom
        generalize hPI : pyIter = PI
        wp_walk
        subst hPI
        refine wpAny_pyIter_list isl ?_
        refine wpAny_bind (wpAny_runValue ?_)
        have lS : l < s.heap.objs.size := Heap.lt_size hol
        have calm3 : A.in1.in1.in1.handled = none := by
          simp [hh]
        have sz1 : (s.heap.push (newSet led)).objs.size = s.heap.objs.size + 1 := Heap.size_push _ _
        have apart : l ≠ (s.heap.push (newSet led)).objs.size := by rw [sz1]; exact Nat.ne_of_lt (Nat.lt_succ_of_lt lS)
        have outs : s.heap.objs.size ∉ [(s.heap.push (newSet led)).objs.size, l] := by
          rw [sz1]
          simp only [List.mem_cons, List.not_mem_nil, or_false, not_or]
          exact ⟨Nat.ne_of_lt (Nat.lt_succ_self _), Nat.ne_of_gt lS⟩
        have vals : ∀ (i : Nat) (v : Value), items[i]? = some v → ∃ t, v = .str (xs.getD i Str.empty) t :=
          fun i v e => SS.strs_at hi i v (by rw [Array.getElem?_toList]; exact e)
        refine loop_strs ((Walks.list calm3 _ l apart items).toS) s.heap.objs.size outs xs hsz (by rw [← hsz]; exact hb) vals (items.size - 0) 0 _ (by omega) (Nat.zero_le _)
          ⟨⟨_, Heap.get?_push_size _ rfl, rfl, rfl⟩, isl.push _⟩ ?s0 ?fin
        case s0 =>
          have gg : ((s.heap.push (newSet led)).push { cls := .type "list_iterator", data := .fields #[.ref l, .int 0 0] }).get? s.heap.objs.size = some (newSet led) :=
            Heap.get?_push_of_some _ at0
          exact SetOf_congr ((setObjOf_fresh (knd := PySem.strKind prog w) led).setOf gg (by unfold scanBound; omega)) (fun _ => rfl) rfl
        case fin =>
          intro s3 mv hS3
          obtain ⟨h3, g3, d3, t3, o3⟩ := s3
          have eg : g3 = s.gens := mv.gens
          have ed : d3 = s.drawn := mv.drawn
          have eo : o3 = s.os := mv.os
          subst eg ed eo
          rw [← hsz, List.take_length] at hS3
          refine wpAny_pure ?_
          show wpAny _ _ (ret Value.none) _ _ _
          refine wpAny_pure ⟨rfl, h3, t3, rfl, hS3, fun b o lt e => ?_⟩
          refine mv.heap b o ?_ (Heap.get?_push_of_some _ (Heap.get?_push_of_some _ e))
          simp only [List.mem_cons, List.not_mem_nil, or_false, not_or]
          exact ⟨Nat.ne_of_lt lt, by rw [sz1]; exact Nat.ne_of_lt (Nat.lt_succ_of_lt lt)⟩
      · cases r2 with
        | error e => exact hr2
        | ok fl2 =>
          cases fl2 with
          | ret rr =>
            obtain ⟨rfl, h3, t3, rfl, hS3, hk3⟩ := hr2
            repeat (any_goals (first
              | assumption
              | wp_step))
            exact h _ _ hS3 hk3
          | _ => exact hr2.elim
    | _ => exact hr.elim
end
end FO

set_option Elab.async false
set_option linter.all false
set_option maxHeartbeats 1000000
set_option maxRecDepth 10000
namespace FO
open PySem PySem.Spec PyProof.Rows L2
section
variable {X : Cx}
/-- signs drawn off a text, as values -/
theorem vals_signs {z : Str} {acc : Array Value} (h : ItemsOf (SignAt z) acc z.cps.size) : Vals (z.cps.toList.map fun c => V.str ⟨#[c]⟩) acc.toList := by
  obtain ⟨h1, h2⟩ := h
  have hl : acc.toList.length = z.cps.toList.length := by simp [h1]
  refine vals_of_at (by simp [h1]) fun j x u e1 e2 => ?_
  rw [List.getElem?_map] at e1
  obtain ⟨c, e3, rfl⟩ := map_of e1
  have e2' : acc[j]? = some u := by simpa using e2
  have hj : j < z.cps.size := by rw [← h1]; exact (Array.getElem?_eq_some_iff.mp e2').1
  obtain ⟨c', t, k1, k2⟩ := h2 j u e2'
  have e3' : z.cps[j]? = some c := by simpa using e3
  rw [e3'] at k1
  cases k1
  exact ⟨t, k2⟩
/-- list(x), the new list not yet frozen -/
def rLN (K : PySem.W.Frag) : List V → Hp → VK → Prop := fun vs H Q => ∃ F x d xs, vs = [x] ∧ Sub F H ∧ Ra K F H x d ∧ biD .list d = some (.list xs) ∧ ∀ us, DpAll K F us xs → ∀ p, H p = none → Q (.ref p) (upd H p (.lst us))
theorem call_listN (hc : X.calm = true) : CallR X (.type "list") (rLN X.K) := by
  intro pins s σ H xs us Q I rs h
  obtain ⟨F, x, d, r, rfl, sub, ha, hf, g⟩ := h
  cases d with
  | list ds =>
    have hf : some (PyData.list ds) = some (.list r) := hf
    cases hf
    obtain ⟨a, vs, rfl, h1, h2⟩ := ha
    exact call_list_of pins s σ H _ us Q I rs ⟨a, vs, rfl, .inl h1, g vs h2⟩
  | tuple ds =>
    have hf : some (PyData.list ds) = some (.list r) := hf
    cases hf
    obtain ⟨a, vs, rfl, h1, h2⟩ := ha
    exact call_list_of pins s σ H _ us Q I rs ⟨a, vs, rfl, .inr (sqT_sub sub h1), g vs h2⟩
  | str z =>
    obtain ⟨hz, e⟩ := ble_of (show (if Nat.ble z.length lim = true then some (PyData.list (strItems z)) else none) = some (.list r) from hf)
    cases e
    cases ha
    obtain ⟨u, rfl, t, rfl⟩ := vals1 rs
    refine call_list_str (I.ok.hd hc) z t (fun h' tk acc c kp e items => ?_) (hn := hz)
    have hv := vals_signs items
    refine ⟨.ref s.heap.objs.size, _, I.laid (t' := tk) kp (Nat.le_refl _) (show ObjOk X.prog X.w _ h' _ (.lst (z.cps.toList.map fun c => V.str ⟨#[c]⟩)) from ⟨?_, acc.toList, c, hv, by rw [Array.toArray_toList]; exact e⟩), rfl, g _ (dps_items z) _ (I.hok.fresh (Nat.le_refl _))⟩
    rw [List.length_map]
    simpa [Str.length] using hz
  | _ => exact nomatch hf
theorem call_listD (hc : X.calm = true) : CallR X (.type "list") (rD1 X.K (biD .list)) := by
  intro pins s σ H xs us Q I rs h
  obtain ⟨F, x, d, r, rfl, sub, ha, hf, g⟩ := h
  have : ∃ ys, r = .list ys := by
    cases d with
    | list ds => cases hf; exact ⟨_, rfl⟩
    | tuple ds => cases hf; exact ⟨_, rfl⟩
    | str z => obtain ⟨_, rfl⟩ := ble_of (show (if Nat.ble z.length lim = true then some (PyData.list (strItems z)) else none) = some r from hf); exact ⟨_, rfl⟩
    | _ => exact nomatch hf
  obtain ⟨ys, rfl⟩ := this
  exact call_listN hc pins s σ H _ us Q I rs ⟨F, x, d, ys, rfl, sub, ha, hf, fun us h => g.lst sub h⟩
/-! ### sorted, of any data -/
def RDv (K : PySem.W.Frag) (F : Hp) (u : Value) (d : PyData) : Prop := ∃ kv, RelV kv u ∧ Dp K F kv d
theorem each_of {K : PySem.W.Frag} {F : Hp} : ∀ {vs : List V} {ds : List PyData} {us : List Value}, DpAll K F vs ds → Vals vs us → PySem.W.EachIs (RDv K F) us ds
  | _, _, _, .nil, .nil => .nil
  | _, _, _, .cons h hs, .cons r rs => .cons ⟨_, r, h⟩ (each_of hs rs)
theorem each_to {K : PySem.W.Frag} {F : Hp} : ∀ {us : List Value} {ds : List PyData}, PySem.W.EachIs (RDv K F) us ds → ∃ vs, Vals vs us ∧ DpAll K F vs ds
  | _, _, .nil => ⟨[], .nil, .nil⟩
  | _, _, .cons ⟨kv, r, h⟩ e => by
    obtain ⟨vs, h1, h2⟩ := each_to e
    exact ⟨kv :: vs, .cons r h1, .cons h h2⟩
theorem each_ents {K : PySem.W.Frag} {F : Hp} : ∀ {es : List DictEntry} {kvs : List (PyData × PyData)}, Paired (fun (e : DictEntry) (p : PyData × PyData) => ∃ kv, RelV kv e.key ∧ Dp K F kv p.1) es kvs → PySem.W.EachIs (RDv K F) (es.map (·.key)) (kvs.map (·.1))
  | _, _, .nil => .nil
  | _, _, .cons r t => .cons r (each_ents t)
theorem each_rd {pins : List (Addr × Obj)} {s : Shared} {σ : L2.St} {F H : Hp} (I : Inv X pins σ H s) (sub : Sub F H) {us : List Value} {ds : List PyData} (e : PySem.W.EachIs (RDv X.K F) us ds) : PySem.W.EachIs (fun v b => ∃ as, Reads s.heap v (id b) as) us ds :=
  e.mono fun v b ⟨kv, r, h⟩ => Dp.reads I b kv v (dp_sub sub h) r
theorem srt_of {xs : List PyData} {r : PyData} (h : (sortD xs).map PyData.list = some r) : r = .list (xs.mergeSort leD) ∧ PySem.W.AllAlike (xs.map id) ∧ PySem.W.Sortable (xs.map id) ∧ (∀ d ∈ xs, d.depth ≤ 60) ∧ xs.length ≤ 1000000 := by
  unfold sortD at h
  by_cases c : srtOk xs = true
  · rw [if_pos c] at h
    cases h
    unfold srtOk at c
    simp only [Bool.and_eq_true, Bool.or_eq_true] at c
    obtain ⟨⟨⟨c1, c2⟩, c3⟩, c4⟩ := c
    refine ⟨rfl, ?_, ?_, ?_, Nat.le_of_ble_eq_true c4⟩
    · rw [List.map_id]
      intro d hd d' hd'
      exact List.all_eq_true.mp (List.all_eq_true.mp c1 d hd) d' hd'
    · rw [List.map_id]
      rcases c2 with c2 | c2
      · refine .inl fun d hd => ?_
        have := List.all_eq_true.mp c2 d hd
        split at this
        · exact ⟨_, _, rfl⟩
        · cases this
      · refine .inr fun d hd => ?_
        have := List.all_eq_true.mp c2 d hd
        refine ⟨fun e => ?_, fun ys e => ?_⟩ <;> (subst e; cases this)
    · intro d hd
      exact of_decide_eq_true (List.all_eq_true.mp c3 d hd)
  · rw [if_neg c] at h; cases h
theorem leD_eq : PySem.W.dataLe false (id : PyData → PyData) = leD := by
  rw [PySem.W.dataLe_eq]
  rfl
theorem call_sortedD (hc : X.calm = true) (hu : X.A.units + 65 < cLine) : CallR X (.builtin "sorted") (rD1 X.K (biD .sorted)) := by
  intro pins s σ H xs us Q I rs h
  obtain ⟨F, x, d, r, rfl, sub, ha, hf, g⟩ := h
  have key : ∀ (a : Addr) (vs : List V) (ss : List Str) (its : List Value) (o : Obj) (n : Nat) (T : String), x = .ref a → (T = "list" ∨ T = "tuple") → vs = ss.map V.str → Vals vs its → s.heap.get? a = some o → o.cls = .type T → o.data = .seq its.toArray n → ss.length < 64 → r = .list ((sortS ss).map .str) →
      wpAny (model X.prog X.w) X.A (call (.builtin "sorted") us) (EP X pins σ Q) X.xe s := fun a vs ss its o n T ex hT ev rv ho hc hd h64 er => by
    subst ex ev er
    rw [Vals.ref1 rs]
    have hlen0 := rv.length
    rw [List.length_map] at hlen0
    refine sorted_seq hT ho hc hd rv.strs (by rw [← hlen0]; exact h64) fun out h1 => ?_
    obtain ⟨ep, he'⟩ := PyProof.Rows.sortedAll_at s.heap its out
    have hlen : ((sortS ss).map V.str).length ≤ sizeLine := by rw [List.length_map]; unfold sortS; rw [List.length_mergeSort]; exact small64 h64
    exact ⟨.ref _, upd H (s.heap.objs.size + 1) (.lst ((sortS ss).map V.str)), I.laid (t' := s.toks) (fun _ _ => PyProof.Rows.sortedAll_old) (Nat.le_succ _) ⟨hlen, out.toList, ep, vals_of_strs h1, he'⟩, rfl, g.lst sub (dps_strs _) _ (I.hok.fresh (Nat.le_succ _))⟩
  have opt : ∀ ds : List PyData, ((ds.mapM strOf).bind fun ss => if Nat.blt ss.length 64 then some (PyData.list ((sortS ss).map .str)) else none) = some r → ∃ ss, ds.mapM strOf = some ss ∧ ss.length < 64 ∧ r = .list ((sortS ss).map .str) := fun ds e => by
    obtain ⟨ss, e1, e⟩ := Option.bind_eq_some_iff.mp e
    by_cases c : Nat.blt ss.length 64 = true
    · rw [if_pos c] at e; cases e; exact ⟨ss, e1, Nat.le_of_ble_eq_true c, rfl⟩
    · rw [if_neg c] at e; cases e
  cases d with
  | list ds =>
    have hf : (match ds.mapM strOf with
      | some ss => if Nat.blt ss.length 64 then some (PyData.list ((sortS ss).map .str)) else none
      | none => (sortD ds).map .list) = some r := hf
    obtain ⟨a, vs, rfl, h1, h2⟩ := ha
    obtain ⟨its, rv, pl, _⟩ := I.list h1
    cases em : ds.mapM strOf with
    | some ss =>
      rw [em] at hf
      obtain ⟨ss, e1, e2, e3⟩ := opt ds (by rw [em]; exact hf)
      obtain ⟨o, ho, hc, n, hd⟩ := pl.isList
      exact key a vs ss its o n "list" rfl (.inl rfl) (strs_dp h2 e1) rv ho hc hd e2 e3
    | none =>
      rw [em] at hf
      obtain ⟨rfl, hal, hk, hdp, hlen⟩ := srt_of hf
      have ee := each_of h2 rv
      rw [Vals.ref1 rs]
      refine PySem.W.sorted_data (enc := id) pl.isList ee (each_rd I sub ee) hal hk (by rw [sizeLine_eq]; omega) (fun b hb => by have := hdp b hb; show X.A.units + 2 + b.depth < cLine; omega) fun out hol hout => ?_
      rw [leD_eq] at hout
      obtain ⟨us', hv, hd'⟩ := each_to hout
      obtain ⟨ep, he'⟩ := PyProof.Rows.sortedAll_at s.heap its (List.toArray out)
      have hlen' : us'.length ≤ sizeLine := by rw [hv.length, hol, sizeLine_eq]; omega
      exact ⟨.ref _, upd H (s.heap.objs.size + 1) (.lst us'), I.laid (t' := s.toks) (fun _ _ => PyProof.Rows.sortedAll_old) (Nat.le_succ _) ⟨hlen', out, ep, hv, he'⟩, rfl, g.lst sub hd' _ (I.hok.fresh (Nat.le_succ _))⟩
  | tuple ds =>
    obtain ⟨a, vs, rfl, h1, h2⟩ := ha
    obtain ⟨ss, e1, e2, e3⟩ := opt ds hf
    obtain ⟨its, rv, pl, _⟩ := I.tuple (sqT_sub sub h1)
    obtain ⟨o, ho, hc, n, hd⟩ := (show s.heap.IsTuple a its.toArray from pl)
    exact key a vs ss its o n "tuple" rfl (.inr rfl) (strs_dp h2 e1) rv ho hc hd e2 e3
  | dict kvs =>
    have hf : (sortD (kvs.map (·.1))).map PyData.list = some r := hf
    obtain ⟨rfl, hal, hk, hdp, hlen⟩ := srt_of hf
    obtain ⟨a, o, rfl, h1, dk⟩ := ha
    obtain ⟨es, ep, hd, pr⟩ := dk.ents
    have ho : s.heap.get? a = some o := (I.hok a _ h1).1
    have hsz : es.size = kvs.length := by have := pr.length; rwa [Array.length_toList] at this
    have hfew := dk.few
    have hn : es.size ≤ sizeLine := by rw [sizeLine_eq]; omega
    rw [Vals.ref1 rs]
    refine Calls.call_function_entry kind_sorted plain_sorted entry_sorted (args_sorted1 _) ?_
    unfold Builtin.«sorted»
    refine wpAny_bind (m := checkCount "sorted" 1 1 _) (wpAny_pure ?_)
    refine wpAny_bind (PySem.W.kdu_collect (A := X.A.in1) (L2.kdl_raw (ep := ep) dk.sys dk.ex hd) (I.ok.hd hc) ho hn fun h' tk acc hk' hacc => ?_)
    have hl : acc.toList.length = es.size := by rw [Array.length_toList]; exact hacc.1
    have hacc2 : acc.toList = es.toList.map (·.key) := by
      refine List.ext_getElem? fun j => ?_
      rw [List.getElem?_map, Array.getElem?_toList, Array.getElem?_toList]
      cases e : acc[j]? with
      | none =>
        have : es.size ≤ j := by rw [← hacc.1]; exact Array.getElem?_eq_none_iff.mp e
        rw [Array.getElem?_eq_none_iff.mpr this]; rfl
      | some v =>
        obtain ⟨en, q1, rfl⟩ := hacc.2 j v e
        rw [q1]; rfl
    refine wpAny_bind (wpAny_newList ?_ (by rw [hl]; exact hn))
    have I1 : Inv X pins σ H { s with heap := h', toks := tk } := I.kept hk'
    have ee : PySem.W.EachIs (RDv X.K F) acc.toList (kvs.map (·.1)) := by rw [hacc2]; exact each_ents pr
    have hp : ∀ b u, h'.get? b = some u → (h'.push (seqObj "list" acc.toList.toArray 0)).get? b = some u := fun b u e => Heap.get?_push_of_some _ e
    have I2 : Inv X pins σ H { s with heap := h'.push (seqObj "list" acc.toList.toArray 0), toks := tk } := I.kept fun b u e => hp b u (hk' b u e)
    have hat : (h'.push (seqObj "list" acc.toList.toArray 0)).get? h'.objs.size = some (seqObj "list" acc.toList.toArray 0) := Heap.get?_push_size _ rfl
    have er : PySem.W.EachIs (fun v b => ∃ as, Reads (h'.push (seqObj "list" acc.toList.toArray 0)) v (id b) as ∧ h'.objs.size ∉ as) acc.toList (kvs.map (·.1)) :=
      ee.mono fun v b ⟨kv, r, hq⟩ => by
        obtain ⟨as, q⟩ := Dp.reads I1 b kv v (dp_sub sub hq) r
        refine ⟨as, PyProof.Rows.Reads.keeps (fun b u e => hp b u e) q, fun hm => ?_⟩
        obtain ⟨u, e⟩ := PyProof.On.reads_mem_get q _ hm
        exact Nat.lt_irrefl _ (Heap.lt_size e)
    have hsort := PySem.W.list_sort_data (prog := X.prog) (w := X.w) (A := X.A.in1) (E := X.xe) (s := { s with heap := h'.push (seqObj "list" acc.toList.toArray 0), toks := tk }) (enc := id) (R := RDv X.K F) (Q := fun _ s' => EP X pins σ Q (.ref h'.objs.size) s') hat ee er hal hk (by rw [sizeLine_eq]; omega) (fun b hb => by have := hdp b hb; show X.A.units + 1 + 1 + b.depth < cLine; omega) fun out hol hout => by
      rw [leD_eq] at hout
      obtain ⟨us', hv, hd'⟩ := each_to hout
      obtain ⟨e2, he'⟩ := PyProof.Rows.sortedHeap_at (out := List.toArray out) hat
      have hlen' : us'.length ≤ sizeLine := by rw [hv.length, hol, sizeLine_eq]; omega
      have hno : s.heap.get? h'.objs.size = none := by
        cases e : s.heap.get? h'.objs.size with
        | none => rfl
        | some u => exact absurd (Heap.lt_size (hk' _ _ e)) (Nat.lt_irrefl _)
      have hHn : H h'.objs.size = none := I1.hok.fresh (Nat.le_refl _)
      exact ⟨.ref _, upd H h'.objs.size (.lst us'), I.laidN (t' := tk) (fun b u e => by
        have := Heap.lt_size (hk' b u e)
        rw [PyProof.Rows.sortedHeap_old (Nat.ne_of_lt this) (Heap.lt_size (hp b u (hk' b u e)))]
        exact hp b u (hk' b u e)) hno hHn ⟨hlen', out, e2, hv, he'⟩, rfl, g.lst sub hd' _ hHn⟩
    refine wpAny_bind (wpAny_holding (wpAny_mono hsort (fun _ s' x => ?_) fun _ _ e => e))
    exact wpAny_pure ⟨_, rfl, x⟩
  | _ => exact nomatch hf
def tLs (K : PySem.W.Frag) (ta : TE) : TE := fun σ H Q => ta σ H fun x H1 => ∃ F d r, Sub F H1 ∧ Ra K F H1 x d ∧ biD .lenset d = some r ∧ Gv K F H1 r Q
theorem pe_lsD {a : Expr} {ta : TE} {p p2 q pos : Pos} (hc : X.calm = true) (hg : Gl X "len") (hm : X.mg "len" = none) (hg2 : Gl X "set") (hm2 : X.mg "set" = none) (ha : PE X a ta)
    (na : starEach [a] X.env = (false, eval a X.env) :: starEach [] X.env) : PE X (.Call (.Name "len" p) [.Call (.Name "set" p2) [a] [] q] [] pos) (tLs X.K ta) := by
  refine ⟨fun pins s σ H Q I h => ?_⟩
  refine Call_ (ld_blt I hg hm boot_len ?_)
  refine PyProof.Rows.callWith_builtin1 (PyProof.Rows.args_cons ?_ rfl) rfl rfl
  refine Call_ (ld_blt I hg2 hm2 boot_set ?_)
  refine PyProof.Rows.callWith_type1 (PyProof.Rows.args_cons (thn (ha.run pins s σ H _ I h) fun v s1 ⟨x, H1, I1, r1, q1⟩ =>
    PyProof.Rows.args_nil ?_) na) na rfl
  obtain ⟨F, d, r, sub, hra, hf, g⟩ := q1
  cases d with
  | list ds =>
    obtain ⟨ad, vs, rfl, h1, h2⟩ := hra
    obtain ⟨ss, e1, e2⟩ := Option.bind_eq_some_iff.mp (show ((ds.mapM strOf).bind fun ss => if Nat.blt ss.length 64 then some (PyData.int (dedup ss).length) else none) = some r from hf)
    have h64 : Nat.blt ss.length 64 = true := by
      cases c : Nat.blt ss.length 64 with
      | true => rfl
      | false => rw [c, if_neg Bool.false_ne_true] at e2; cases e2
    rw [if_pos h64] at e2
    cases e2
    have hlt : ss.length < 64 := Nat.le_of_ble_eq_true h64
    have ev := strs_dp h2 e1
    subst ev
    cases r1
    obtain ⟨its, rv, pl, hz⟩ := I1.list h1
    refine set_of_strs (I1.ok.hd hc) pl.isList (by simpa using strsAre_of rv) (by unfold scanBound; omega) fun h' tk hS hk => ?_
    refine PyProof.Rows.args_nil ?_
    obtain ⟨o, es, ep, t, ho, hex, hd, _, _, _, hfi, hn⟩ := hS
    have I2 : Inv X pins σ H1 { s1 with heap := h', toks := tk } := I1.kept fun b o e => hk b o (Heap.lt_size e) e
    have hle := dedup_le ss
    refine call_len_set ho hex hd hfi (by rw [hn]; unfold scanBound at *; omega) ⟨.int (dedup ss).length, H1, I2.tok _, ⟨_, by rw [hn]⟩, g (.int _) F H1 (Nw.refl sub) (.int _)⟩
  | _ => exact nomatch hf
end
end FO

set_option Elab.async false
set_option linter.all false
set_option maxHeartbeats 1000000
set_option maxRecDepth 10000
namespace FO
open PySem PySem.Spec L2
/-! ### comparisons of values -/
def rInK (X : Cx) (neg : Bool) : R2 := fun x y H Q => ∃ (β : List Addr) (F : Hp) (a : Addr) (ob : Obj) (kvs : List (PyData × W)) (k : PyData), y = .ref a ∧ Sub F H ∧ H a = some (xO a ob) ∧ DctOk (kx X) β F a ob kvs ∧ kOk kvs k = true ∧ Dp X.K F x k ∧ Q (.bl (if neg then !dhas kvs k else dhas kvs k)) H
def rCW (X : Cx) (o : CmpO) : R2 := fun x y H Q => rD2 X.K (cmpD o) x y H Q ∨ (o = .is_ ∧ (∃ a, x = .ref a) ∧ y = .non ∧ Q (.bl false) H) ∨ (o = .isnot ∧ (∃ a, x = .ref a) ∧ y = .non ∧ Q (.bl true) H) ∨ (o = .in_ ∧ rInK X false x y H Q) ∨ (o = .notin ∧ rInK X true x y H Q)
section
variable {X : Cx} {wx : Wx} {P : Pg}
theorem op_cmpW (hu : X.A.units + 65 < cLine) (o : CmpO) : OpR X (compareOp (cmO o)) (rCW X o) := by
  intro pins s σ H x y v u Q I rx ry h
  rcases h with h | ⟨rfl, ⟨a, rfl⟩, rfl, q⟩ | ⟨rfl, ⟨a, rfl⟩, rfl, q⟩ | ⟨rfl, h⟩ | ⟨rfl, h⟩
  · exact op_cmpD hu o pins s σ H x y v u Q I rx ry h
  · exact op_isN pins s σ H _ _ v u Q I rx ry ⟨rfl, q⟩
  · exact op_notN pins s σ H _ _ v u Q I rx ry ⟨rfl, q⟩
  · obtain ⟨β, F, a, ob, kvs, k, rfl, sub, hh, d, hk, kd, q⟩ := h
    cases ry
    exact dc_in (by omega) I sub hh d hk kd rx fun s' I' => ⟨.bl (dhas kvs k), H, I', rfl, q⟩
  · obtain ⟨β, F, a, ob, kvs, k, rfl, sub, hh, d, hk, kd, q⟩ := h
    cases ry
    exact dc_notIn (by omega) I sub hh d hk kd rx fun s' I' => ⟨.bl (!dhas kvs k), H, I', rfl, q⟩
theorem cmp_W {o : CmpO} {a b : E} {σ : St} {H : Hp} {Q : VK} (h : tE (kx X) wx P (.cmp o a b) σ H Q) : tOp (rCW X o) (tA (kx X) wx P a) (tA (kx X) wx P b) σ H Q := by
  obtain ⟨Z, β, F, ρ, S, rl, h⟩ := h
  simp only [ev] at h
  refine ⟨Z, β, F, ρ, S, rl, h.bind.mono fun w β1 F1 S1 H1 u1 rl1 ⟨_, _, h1⟩ x rx => ?_⟩
  refine ⟨Z, β1, F1, ρ, S1, rl1, h1.bind.mono fun u β2 F2 S2 H2 u2 rl2 ⟨_, _, h2⟩ y ry => ?_⟩
  obtain ⟨r, er, k⟩ := Pw.lift h2 rl2
  have rx' := repA_up u2 rx
  have gen : ((vw S2 w).bind fun x => (vw S2 u).bind fun y => cmpD o x y) = some r → rD2 X.K (cmpD o) x y H2 Q := fun er => by
    obtain ⟨d, e, e1, e2, e3⟩ := bind2_of er
    exact ⟨F2, d, e, r, rl2.fh, repA_ra rx' rl2 e1, repA_ra ry rl2 e2, e3, fun v F' H' n dp => k F' H' n v dp⟩
  have ex_ref : ∀ {c : Nat} {x : V} {a : E}, RepA (kx X) a ρ σ β2 F2 x (.exc c) → ∃ z, x = .ref z := fun {c x a} q => by
    rcases q with ⟨z, _, e⟩ | ⟨_, _, _, _, e, _⟩
    · exact ⟨z, e⟩
    · cases e
  have rf_ref : ∀ {n : Nat} {x : V} {a : E}, RepA (kx X) a ρ σ β2 F2 x (.ref n) → ∃ z, x = .ref z ∧ β2[n]? = some z := fun {n x a} q => by
    rcases q with ⟨z, g, e⟩ | ⟨_, _, _, _, e, _⟩
    · exact ⟨z, e, g⟩
    · cases e
  have non_v : RepA (kx X) b ρ σ β2 F2 y (.d .none) → y = .non := fun q => by
    rcases q with q | ⟨_, _, _, _, e, _⟩
    · cases (show Dp X.K F2 y .none from q); rfl
    · injection e with e; cases e
  have bl : ∀ {c : Bool}, r = .bool c → Q (.bl c) H2 := fun {c} e => by
    subst e
    exact k F2 H2 (Nw.refl rl2.fh) _ (Dp.bl c)
  have mem : ∀ {d : PyData} {n : Nat} {neg : Bool}, w = .d d → u = .ref n → (match S2[n]? with
      | some (.dct kvs) => if kOk kvs d then some (PyData.bool (if neg then !dhas kvs d else dhas kvs d)) else none
      | some (.lck kvs) => if kOk kvs d then some (PyData.bool (if neg then !dhas kvs d else dhas kvs d)) else none
      | some (.lst ys) => cmpD (if neg then .notin else .in_) d (.list ys)
      | _ => none) = some r → (∃ ys, S2[n]? = some (.lst ys) ∧ cmpD (if neg then .notin else .in_) d (.list ys) = some r) ∨ rInK X neg x y H2 Q := fun {d n neg} ew eu em => by
    subst ew eu
    obtain ⟨z, rfl, hz⟩ := rf_ref ry
    cases q : S2[n]? with
    | none => rw [q] at em; cases em
    | some c =>
      rw [q] at em
      have dx : kOk [] d = true → Dp X.K F2 x d := fun hk => by
        rcases rx' with q | ⟨_, xs, _, _, e, _⟩
        · exact q
        · injection e with e
          subst e
          cases hk
      cases c with
      | lst ys => exact .inl ⟨ys, rfl, em⟩
      | dct kvs =>
        dsimp only at em
        obtain ⟨ob, k1, k2⟩ := rl2.st.cell n z _ hz q
        by_cases hk : kOk kvs d = true
        · rw [if_pos hk] at em
          have hd : kOk [] d = true := by unfold kOk at hk ⊢; rw [(Bool.and_eq_true_iff.mp hk).1]; rfl
          exact .inr ⟨β2, F2, z, ob, kvs, d, rfl, rl2.fh, k1, k2, hk, dx hd, bl (Option.some.inj em).symm⟩
        · rw [if_neg hk] at em; cases em
      | lck kvs =>
        dsimp only at em
        obtain ⟨ob, k1, _, k2⟩ := rl2.st.cell n z _ hz q
        by_cases hk : kOk kvs d = true
        · rw [if_pos hk] at em
          have hd : kOk [] d = true := by unfold kOk at hk ⊢; rw [(Bool.and_eq_true_iff.mp hk).1]; rfl
          exact .inr ⟨β2, F2, z, ob, kvs, d, rfl, rl2.fh, k1, k2, hk, dx hd, bl (Option.some.inj em).symm⟩
        · rw [if_neg hk] at em; cases em
      | _ => cases em
  unfold cmpW at er
  split at er
  · obtain ⟨z, e⟩ := ex_ref rx'
    exact .inr (.inl ⟨rfl, ⟨z, e⟩, non_v ry, bl (Option.some.inj er).symm⟩)
  · obtain ⟨z, e⟩ := ex_ref rx'
    exact .inr (.inr (.inl ⟨rfl, ⟨z, e⟩, non_v ry, bl (Option.some.inj er).symm⟩))
  · obtain ⟨z, e, _⟩ := rf_ref rx'
    exact .inr (.inl ⟨rfl, ⟨z, e⟩, non_v ry, bl (Option.some.inj er).symm⟩)
  · obtain ⟨z, e, _⟩ := rf_ref rx'
    exact .inr (.inr (.inl ⟨rfl, ⟨z, e⟩, non_v ry, bl (Option.some.inj er).symm⟩))
  · rename_i d n _ _
    rcases mem (neg := false) rfl rfl er with ⟨ys, q, e⟩ | q
    · refine .inl (gen ?_)
      show ((some d).bind fun x => (vw S2 (.ref n)).bind fun y => cmpD .in_ x y) = some r
      rw [vw, q]
      exact e
    · exact .inr (.inr (.inr (.inl ⟨rfl, q⟩)))
  · rename_i d n _ _
    rcases mem (neg := true) rfl rfl er with ⟨ys, q, e⟩ | q
    · refine .inl (gen ?_)
      show ((some d).bind fun x => (vw S2 (.ref n)).bind fun y => cmpD .notin x y) = some r
      rw [vw, q]
      exact e
    · exact .inr (.inr (.inr (.inr ⟨rfl, q⟩)))
  · exact .inl (gen er)
end
end FO

set_option Elab.async false
set_option linter.all false
set_option maxHeartbeats 1000000
namespace FO
open PySem PySem.Spec PyProof.Rows L2
section
variable {X : Cx}
/-! ### list.count -/
theorem mt_countDD (hu : X.A.units + 65 < cLine) : MtR X "list.count" (rM1 X.K (bmD .count)) := by
  intro pins s σ H x xs v us Q I rx rxs h
  obtain ⟨F, y, d, e, r, rfl, sub, ha, hb, hf, g⟩ := h
  cases d with
  | list ds =>
    have hf' : (if (SeqAt.shaped e && SeqAt.shaped (.list ds)) = true then some (PyData.int ((ds.filter fun z => PyData.eqv z e).length : Nat)) else none) = some r := hf
    by_cases c : (SeqAt.shaped e && SeqAt.shaped (.list ds)) = true
    · rw [if_pos c] at hf'
      cases hf'
      obtain ⟨c1, c2⟩ := Bool.and_eq_true_iff.mp c
      have hd := ra_dp ha sub (nd_sh c2)
      have he := ra_dp hb sub (nd_sh c1)
      obtain ⟨a, vs, rfl, _, _⟩ := ha
      cases rx
      obtain ⟨uy, rfl, ry⟩ := rxs.one
      obtain ⟨bs, r1⟩ := Dp.reads I e y uy he ry
      have hxs : PyData.canLayAll0 ds = true := SeqAt.canLay_of_shaped c2
      have hroom : X.A.units + 1 + min (PyData.depthAll ds) e.depth < cLine := room_in_shaped c1 hu
      cases hd with
      | lst hs ha2 =>
        obtain ⟨its, rv, ⟨⟨cls, dd, data, sls⟩, n, ho, hc, hdn, hdt⟩, hlen⟩ := I.list hs
        simp only at hc hdt
        subst hc hdt
        obtain ⟨as, h4⟩ := Dp.readsAll I ds _ its ha2 rv
        have hmap : its.map (SeqAt.readOf s.heap) = ds := SeqAt.readsAll_map ds its as hxs h4
        refine call_meets PySem.F.slot_list_count ⟨_, ho, rfl⟩ PySem.F.entry_list_count (PySem.F.args_list_count_2 _ _)
          (SeqAt.list_countAt a its.toArray n dd sls uy (fun u => PyData.eqv (SeqAt.readOf s.heap u) e)) ⟨ho, SeqAt.items_eqAt (vs := its.toArray) (show ReadsAll s.heap its.toArray.toList ds as from h4) r1 hxs (SeqAt.canLay_of_shaped c1) hroom, ?_⟩
        have ec : its.toArray.toList.countP (fun u => PyData.eqv (SeqAt.readOf s.heap u) e) = (ds.filter fun z => PyData.eqv z e).length := by
          rw [← hmap, ← List.countP_eq_length_filter, List.countP_map]
          rfl
        refine ⟨.int ((ds.filter fun z => PyData.eqv z e).length : Nat), H, I.tok _, ⟨s.toks, ?_⟩, g.sc sub (.int _)⟩
        show Value.int ((its.toArray.toList.countP (fun u => PyData.eqv (SeqAt.readOf s.heap u) e) : Nat) : Int) s.toks = _
        rw [ec]
    · rw [if_neg c] at hf'; cases hf'
  | _ => exact nomatch hf
/-! ### isinstance of a caught exception -/
def rIsX (K : PySem.W.Frag) : List V → Hp → VK → Prop := fun xs H Q => ∃ (a : Addr) (k : Nat) (c : V) (cv : Value) (b : Bool), xs = [.ref a, c] ∧ H a = some (xE K k a) ∧ ExcC K (exA K k) ∧ (∀ u, RelV c u → u = cv) ∧ PySem.W.kitOne K (.ref (exA K k)) cv = some b ∧ Q (.bl b) H
theorem call_isX : CallR X (.builtin "isinstance") (rIsX X.K) := by
  intro pins s σ H xs us Q I r h
  obtain ⟨a, k, c, cv, b, rfl, ha, C, hcv, e, q⟩ := h
  cases r with
  | cons rx rr =>
    cases rr with
    | cons rt rr =>
      cases rr
      cases rx
      have ec := hcv _ rt
      subst ec
      obtain ⟨oe, vs, hget, hz, hv⟩ := (I.hok a _ ha).1
      have J : PySem.W.InstAt s.heap a oe (exA X.K k) none := by
        obtain ⟨oc, od, oda, osl⟩ := oe
        obtain ⟨h1, h2⟩ := hz
        dsimp only at h1 h2 hv
        subst h1 h2 hv
        exact ⟨hget, rfl, rfl, trivial⟩
      exact PySem.W.kia_one (PySem.W.handS_kitx_exc C.hg C.hk C.hs C.hd C.ha C.hn C.ht C.hm) I.kIn J e (fun z => nomatch z) fun tk => ⟨.bl b, H, I.kept (t' := tk) fun _ _ z => z, rfl, q⟩
end
section
variable {K : Kw} {wx : Wx} {P : Pg}
theorem isx_D {a : E} {c : Nat} {σ : L2.St} {H : Hp} {Q : VK} (hc : ∀ k, k < 8 → ExcC K.K (exA K.K k) ∧ ∀ c, c < 8 → PySem.W.kitOne K.K (.ref (exA K.K k)) (.ref (exA K.K c)) = some (exSub k c)) (h : tE K wx P (.isx a c) σ H Q) : tCB (rIsX K.K) (tCons (tE K wx P a) (tCons (tC (.ref (exA K.K c))) tNil)) σ H Q := by
  obtain ⟨Z, β, F, ρ, S, rl, h⟩ := h
  simp only [ev] at h
  refine ⟨Z, β, F, ρ, S, rl, h.bind.mono fun w β1 F1 S1 H1 u1 rl1 ⟨_, _, h1⟩ x rx => ?_⟩
  cases w with
  | d z => exact h1.elim
  | ref n => exact h1.elim
  | exc k =>
    dsimp only at h1
    by_cases cc : (Nat.blt k 8 && Nat.blt c 8) = true
    · rw [if_pos cc] at h1
      obtain ⟨c1, c2⟩ := Bool.and_eq_true_iff.mp cc
      have c1 : k < 8 := Nat.le_of_ble_eq_true c1
      have c2 : c < 8 := Nat.le_of_ble_eq_true c2
      obtain ⟨a', ha, rfl⟩ := rx
      obtain ⟨e1, e2⟩ := hc k c1
      refine ⟨a', k, _, .ref (exA K.K c), exSub k c, rfl, rl1.fh _ _ ha, e1, fun u r => r, e2 c c2, ?_⟩
      exact Pw.here h1 rl1 _ (.bl _)
    · rw [if_neg cc] at h1; exact h1.elim
theorem isv_D {a : E} {σ : L2.St} {H : Hp} {Q : VK} (hc : ∀ k, k < 8 → ExcC K.K (exA K.K k) ∧ PySem.W.kitOne K.K (.ref (exA K.K k)) (.type "ValueError") = some true) (h : tE K wx P (.isv a) σ H Q) : tCB (rIsX K.K) (tCons (tE K wx P a) (tCons (tC (.ty "ValueError")) tNil)) σ H Q := by
  obtain ⟨Z, β, F, ρ, S, rl, h⟩ := h
  simp only [ev] at h
  refine ⟨Z, β, F, ρ, S, rl, h.bind.mono fun w β1 F1 S1 H1 u1 rl1 ⟨_, _, h1⟩ x rx => ?_⟩
  cases w with
  | d z => exact h1.elim
  | ref n => exact h1.elim
  | exc k =>
    dsimp only at h1
    by_cases cc : (Nat.blt k 8) = true
    · rw [if_pos cc] at h1
      have c1 : k < 8 := Nat.le_of_ble_eq_true cc
      obtain ⟨a', ha, rfl⟩ := rx
      obtain ⟨e1, e2⟩ := hc k c1
      refine ⟨a', k, _, .type "ValueError", true, rfl, rl1.fh _ _ ha, e1, fun u r => r, e2, ?_⟩
      exact Pw.here h1 rl1 _ (.bl _)
    · rw [if_neg cc] at h1; exact h1.elim
theorem max2_D {a b : E} {σ : L2.St} {H : Hp} {Q : VK} (h : tE K wx P (.max2 a b) σ H Q) : tCB (fun xs H Q => ∃ i j, xs = [.int i, .int j] ∧ Q (.int (if j > i then j else i)) H) (tCons (tE K wx P a) (tCons (tE K wx P b) tNil)) σ H Q := by
  obtain ⟨Z, β, F, ρ, S, rl, h⟩ := h
  simp only [ev] at h
  refine ⟨Z, β, F, ρ, S, rl, h.bind.mono fun w β1 F1 S1 H1 u1 rl1 ⟨_, _, h1⟩ x rx => ?_⟩
  refine ⟨Z, β1, F1, ρ, S1, rl1, h1.bind.mono fun u β2 F2 S2 H2 u2 rl2 ⟨_, _, h2⟩ y ry => ?_⟩
  have rx2 := repW_up u2 rx
  cases w with
  | ref n => exact h2.elim
  | exc k => exact h2.elim
  | d z =>
    cases z with
    | int i =>
      cases u with
      | ref n => exact h2.elim
      | exc k => exact h2.elim
      | d t =>
        cases t with
        | int j =>
          cases (show Dp K.K F2 x (.int i) from rx2)
          cases (show Dp K.K F2 y (.int j) from ry)
          refine ⟨i, j, rfl, Pw.here h2 rl2 _ ?_⟩
          have e : max i j = if j > i then j else i := by
            rw [Int.max_def]
            by_cases c : i < j
            · rw [if_pos (by omega), if_pos c]
            · by_cases c2 : i = j
              · subst c2; rw [if_pos (Int.le_refl _), if_neg c]
              · rw [if_neg (by omega), if_neg c]
          rw [e]
          exact .int _
        | _ => exact h2.elim
    | _ => exact h2.elim
end
end FO

set_option Elab.async false
set_option linter.all false
set_option maxHeartbeats 2000000
set_option maxRecDepth 100000
namespace FO
open PySem PySem.Spec PyProof.Rows L2
theorem sup_not {o : Expr} {m : Str} {env : Env} {t : Sem Value} (h : isSup o = false) : attributeBase o m env t = t := by
  unfold attributeBase
  split
  · cases h
  · rfl
/-! ### fields -/
section
variable {K : Kw} {β : List Addr} {F : Hp}
theorem fld_look {f : Str} {w : W} : ∀ {gs : List (Str × V)} {fs : List (Str × W)}, Paired (FldOk K β F) gs fs → fs.lookup f = some w → ∃ v, gs.lookup f = some v ∧ RepW K β F v w
  | _, _, .nil, l => by cases l
  | (g, v) :: gs, (g', w') :: fs, .cons ⟨e, r⟩ t, l => by
    have e : g = g' := e
    subst e
    rw [List.lookup_cons] at l ⊢
    cases c : f == g with
    | true => rw [c] at l; cases l; exact ⟨v, rfl, r⟩
    | false => rw [c] at l; exact fld_look t l
theorem fld_none {f : Str} : ∀ {gs : List (Str × V)} {fs : List (Str × W)}, Paired (FldOk K β F) gs fs → fs.lookup f = none → gs.lookup f = none
  | _, _, .nil, l => rfl
  | (g, v) :: gs, (g', w') :: fs, .cons ⟨e, r⟩ t, l => by
    have e : g = g' := e
    subst e
    rw [List.lookup_cons] at l ⊢
    cases c : f == g with
    | true => rw [c] at l; cases l
    | false => rw [c] at l; exact fld_none t l
theorem fld_put {f : Str} {v : V} {w : W} (r : RepW K β F v w) : ∀ {gs : List (Str × V)} {fs : List (Str × W)}, Paired (FldOk K β F) gs fs → Paired (FldOk K β F) (putF f v gs) (fput f w fs)
  | _, _, .nil => .cons ⟨rfl, r⟩ .nil
  | (g, v') :: gs, (g', w') :: fs, .cons ⟨e, r'⟩ t => by
    have e : g = g' := e
    subst e
    unfold putF fput
    by_cases c : g = f
    · rw [if_pos c, if_pos c]; exact .cons ⟨rfl, r⟩ t
    · rw [if_neg c, if_neg c]; exact .cons ⟨rfl, r'⟩ (fld_put r t)
end
/-! ### calls of methods, makings -/
def tMethW (C : Addr) (m : Str) (sp : Sp) (E : L2.St → XK) (ta : TE) (t : TA) : TE := fun σ H Q => ta σ H fun x H1 => ∃ a dx fs, x = .ref a ∧ H1 a = some (.ins C dx fs) ∧ fs.lookup m = none ∧ t σ H1 fun vs H2 => sp (x :: vs) H2 Q (E σ)
def tMakeW (C : Addr) (sp : Sp) (E : L2.St → XK) (t : TA) : TE := fun σ H Q => t σ H fun vs H1 => ∀ x dx, H1 x = none → H1 dx = none → dx ≠ x →
  sp (.ref x :: vs) (upd (upd H1 dx (.own x)) x (.ins C dx [])) (fun v H2 => v = .non ∧ Q (.ref x) H2) (E σ)
section
variable {X : Cx} {CX : CXT} {k : Nat} {f C : Addr} {fd : FuncData} {ps : List Str} {sp : Sp} {Ew : L2.St → XK} {x m : Str} {p pos apos : Pos} {e o : Expr} {es : List Expr} {ta : TE} {t : TA}
theorem pe_methW (he : PE X o ta) (c : Cls X.K C) (hm : Meth X.K C m f) (F : FnOk X.prog X.w X.K X.mg X.base CX k f fd ps sp) (hr : Room k X.A) (hb : Binds X.K fd ps []) (hx : ∀ σ, PassesAt CX X σ (Ew σ)) (ha : PA X (e :: es) t)
    (hbase : attributeBase o m X.env (eval o X.env) = eval o X.env) (hform : methodCallForm ((e :: es).length + ([] : List Keyword).length) (backTo pos (starEach (e :: es) X.env)) (backToKw pos (keywordEach [] X.env)) = true) (hline : (apos.endLine == pos.line) = true)
    (hst : starEach (e :: es) X.env = (false, eval e X.env) :: starEach es X.env) (hpl : (backTo pos (starEach es X.env)).any (·.1) = false) :
    PE X (.Call (.Attribute o m apos) (e :: es) [] pos) (tMethW C m sp Ew ta t) := by
  refine ⟨fun pins s σ H Q I h => ?_⟩
  rw [arm_eval_Call, hbase]
  refine wpAny_bind (thn (he.run pins s σ H _ I h) fun u s1 ⟨x, H1, I1, rx, a, dx, fs, ex, ea, l, q⟩ => ?_)
  subst ex
  obtain rfl : u = Value.ref a := rx
  refine wpAny_bind (wpAny_standAt ?_)
  have hpos : methodCallPos true o X.env apos pos = pure pos := by unfold methodCallPos; simp [hline]
  unfold methodCall
  rw [hform]
  refine wpAny_bind (wpAny_holding (getmeth_ok I1 ea c hm l ?_))
  refine wpAny_bind (wpAny_of_eq hpos ?_)
  refine PySem.W.callWith_K (first := [.ref a]) (h₀ := X.base) I.ok.mod.kin hm.kp (thn (ha.run pos pins s1 σ H1 _ I1 q) fun us s2 ⟨vs, H2, I2, r, q2⟩ => ⟨I2.kIn, ?_⟩) hst hpl
  exact run_fnS (us := .ref a :: us) (vs := .ref a :: vs) F hr hb (hx σ) I2 (.cons rfl r) q2
theorem pe_methW0 (he : PE X o ta) (c : Cls X.K C) (hm : Meth X.K C m f) (F : FnOk X.prog X.w X.K X.mg X.base CX k f fd ps sp) (hr : Room k X.A) (hb : Binds X.K fd ps []) (hx : ∀ σ, PassesAt CX X σ (Ew σ))
    (hbase : attributeBase o m X.env (eval o X.env) = eval o X.env) (hline : (apos.endLine == pos.line) = true) :
    PE X (.Call (.Attribute o m apos) [] [] pos) (tMethW C m sp Ew ta tNil) := by
  refine ⟨fun pins s σ H Q I h => ?_⟩
  rw [arm_eval_Call, hbase]
  refine wpAny_bind (thn (he.run pins s σ H _ I h) fun u s1 ⟨x, H1, I1, rx, a, dx, fs, ex, ea, l, q⟩ => ?_)
  subst ex
  obtain rfl : u = Value.ref a := rx
  refine wpAny_bind (wpAny_standAt ?_)
  have hpos : methodCallPos true o X.env apos pos = pure pos := by unfold methodCallPos; simp [hline]
  have hform : methodCallForm (([] : List Expr).length + ([] : List Keyword).length) (backTo pos (starEach [] X.env)) (backToKw pos (keywordEach [] X.env)) = true := rfl
  unfold methodCall
  rw [hform]
  refine wpAny_bind (wpAny_holding (getmeth_ok I1 ea c hm l ?_))
  refine wpAny_bind (wpAny_of_eq hpos ?_)
  exact PySem.W.callWith_K0 (first := [.ref a]) I1.kIn hm.kp (run_fnS (us := [.ref a]) (vs := [.ref a]) F hr hb (hx σ) I1 (.cons rfl .nil) q)
theorem run_makeW {pins : List (Addr × Obj)} {σ : L2.St} {H : Hp} {s : Shared} {Q : VK} {us : List Value} {vs : List V} (M : Mk X.K C f) (F : FnOk X.prog X.w X.K X.mg X.base CX k f fd ps sp) (hr : Room (k + 1) X.A) (hb : Binds X.K fd ps [])
    (hx : PassesAt CX X σ (Ew σ)) (I : Inv X pins σ H s) (r : Vals vs us)
    (h : ∀ x dx, H x = none → H dx = none → dx ≠ x → sp (.ref x :: vs) (upd (upd H dx (.own x)) x (.ins C dx [])) (fun v H2 => v = .non ∧ Q (.ref x) H2) (Ew σ)) :
    wpAny (model X.prog X.w) X.A (call (.ref C) us) (EP X pins σ Q) X.xe s := by
  have hq := h (s.heap.objs.size + 1) s.heap.objs.size (I.hok.fresh (Nat.le_succ _)) (I.hok.fresh (Nat.le_refl _)) (Nat.ne_of_lt (Nat.lt_succ_self _))
  have I2 := Inv.made (C := C) I
  have r2 : Vals (V.ref (s.heap.objs.size + 1) :: vs) (Value.ref (s.heap.objs.size + 1) :: us) := .cons rfl r
  have hl : (Value.ref (s.heap.objs.size + 1) :: us).length = ps.length := by rw [← r2.length]; exact F.len _ _ _ _ hq
  have b := hb { s with heap := (s.heap.push PySem.W.emptyDict).push (PySem.W.instObj C s.heap.objs.size) } (Value.ref (s.heap.objs.size + 1) :: us) I2.kIn (by rw [List.append_nil]; exact hl)
  rw [List.append_nil] at b
  refine wpAny_call (make_map (f := f) I.kIn M.makes M.init (beq_iff_eq.mp M.fn) (codeAny_mono (F.run _ X.stack _ _ ⟨Value.ref (s.heap.objs.size + 1) :: us, []⟩ (Value.ref (s.heap.objs.size + 1) :: us) _ _ (Ew σ) (hr.make C us [])
    (I2.env0.make C us []) b r2 hq) fun r s' hq' => ?_))
  cases r with
  | error e => exact hx pins _ _ e s' I2 hq'
  | ok fl =>
    cases fl with
    | ret u =>
      obtain ⟨v, H', I3, rv, ev, q3⟩ := I2.after hq'
      subst ev
      exact ⟨rv, ⟨V.ref (s.heap.objs.size + 1), H', I3, rfl, q3⟩⟩
    | next => exact False.elim hq'
    | brk => exact False.elim hq'
    | cont => exact False.elim hq'
theorem pe_makeW (M : Mk X.K C f) (F : FnOk X.prog X.w X.K X.mg X.base CX k f fd ps sp) (hr : Room (k + 1) X.A) (hg : Gl X x) (hm : X.mg x = some (.ref C)) (hb : Binds X.K fd ps []) (hx : ∀ σ, PassesAt CX X σ (Ew σ))
    (ha : PA X (e :: es) t) (hdb : (x == ("__debug__" : Str)) = false) (he : starEach (e :: es) X.env = (false, eval e X.env) :: starEach es X.env) (hpl : (backTo pos (starEach es X.env)).any (·.1) = false) :
    PE X (.Call (.Name x p) (e :: es) [] pos) (tMakeW C sp Ew t) := by
  refine ⟨fun pins s σ H Q I h => ?_⟩
  refine wpAny_Call_Name_kw (ld_glob I hg hm ?_ hdb)
  refine PySem.W.callWith_K (h₀ := X.base) I.ok.mod.kin M.kp (thn (ha.run pos pins s σ H _ I h) fun us s1 ⟨vs, H1, I1, r, q⟩ => ⟨I1.kIn, ?_⟩) he hpl
  exact run_makeW M F hr hb (hx σ) I1 r q
end
/-! ### len by an own __len__ -/
section
variable {X : Cx} {k : Nat} {f C : Addr} {fd : FuncData} {ps : List Str} {sp : Sp}
def rLenI (C : Addr) (sp : Sp) : List V → Hp → VK → Prop := fun xs H Q => ∃ a dx fs, xs = [.ref a] ∧ H a = some (.ins C dx fs) ∧ sp [.ref a] H (fun v H' => ∃ i : Int, v = .int i ∧ 0 ≤ i ∧ i < 1000000 ∧ Q (.int i) H') fun _ _ _ => False
theorem call_lenI (hf : PySem.W.findIn X.K (.ref C) "__len__" = some (some (.ref f))) (hfn : PySem.W.isFn X.K (.ref f) = true) (F : FnOk X.prog X.w X.K X.mg X.base (L2.CX X.prog X.w) k f fd ps sp) (hr : Room (k + 1) X.A) (hb : Binds X.K fd ps []) : CallR X (.builtin "len") (rLenI C sp) := by
  intro pins s σ H xs us Q I r h
  obtain ⟨a, dx, fs, rfl, ea, hsp⟩ := h
  obtain ⟨u, rfl, ru⟩ := vals1 r
  obtain rfl : u = Value.ref a := ru
  obtain ⟨mA, J, _⟩ := ins_get I.hok ea
  obtain ⟨od, J, _⟩ := J.look
  have hl := F.len _ _ _ _ hsp
  have b := hb s [.ref a] I.kIn (by simpa using hl)
  rw [List.append_nil] at b
  refine Calls.call_function_entry kind_len plain_len entry_len (args_len1 _) ?_
  unfold Builtin.«len»
  refine wpAny_bind (m := oneArg "len" _) (wpAny_pure ?_)
  refine wpAny_bind (m := callSpecial? (.ref a) (PySem.Str.ofString "__len__")) (PySem.W.special_fn (args := []) I.kIn J hf (beq_iff_eq.mp hfn) ?_)
  refine wpAny_call (codeAny_mono (F.run X.A.in1 X.stack s H ⟨[.ref a], []⟩ [.ref a] [.ref a] _ _ hr.in1 I.env0.in1 b (.cons rfl .nil) hsp) fun r s' hq => ?_)
  cases r with
  | error e =>
    obtain ⟨_, _, _, _, _, _, _, _, _, _, _, _, z⟩ := hq
    exact z.elim
  | ok fl =>
    cases fl with
    | ret u =>
      obtain ⟨v, H', I2, rv, i, rfl, h0, h1, q⟩ := I.after hq
      obtain ⟨tk, rfl⟩ := rv
      refine wpAny_bind (wpAny_holding (wpAny_pure ?_))
      refine wpAny_bind (wpAny_letGo ?_)
      show wpAny _ _ (if i < 0 then _ else _) _ _ _
      rw [if_neg (by omega)]
      show wpAny _ _ (if i ≥ 2 ^ 63 then _ else _) _ _ _
      rw [if_neg (by omega)]
      exact wpAny_bind (wpAny_mkInt (wpAny_pure ⟨_, rfl, .int i, H', I2.tok _, ⟨_, rfl⟩, q⟩))
    | next => exact False.elim hq
    | brk => exact False.elim hq
    | cont => exact False.elim hq
end
/-! ### list.pop -/
section
variable {X : Cx}
def rPopL : V → List V → Hp → VK → Prop := fun x vs H Q => ∃ l xs y, x = .ref l ∧ vs = [] ∧ H l = some (.lst (xs ++ [y])) ∧ Q y (upd H l (.lst xs))
theorem mt_popL : MtR X "list.pop" rPopL := by
  intro pins s σ H x vs v us Q I rx rv h
  obtain ⟨l, xs, y, rfl, rfl, hH, q⟩ := h
  cases rx
  cases rv
  obtain ⟨z, its, n, r, hl, e⟩ := I.lstM hH
  have hlen := r.length
  rw [List.length_append, List.length_singleton] at hlen
  obtain ⟨u, hu, ru⟩ := r.get (i := xs.length) (x := y) (by simp)
  have hr2 : Vals xs its.dropLast := by
    have := r.take xs.length
    rw [List.take_left] at this
    rw [List.dropLast_eq_take, ← hlen]
    exact this
  refine call_meets F.slot_list_pop ⟨_, e, rfl⟩ F.entry_list_pop (F.args_list_pop_1 _) (PySem.MeetsSeq.list_pop_last l its.toArray n u (by rw [List.size_toArray, ← hlen]; simpa using hu) (by rw [List.size_toArray]; omega)) ⟨e, ?_⟩
  refine ⟨y, _, I.lset (its' := its.dropLast) hH e ?_ hr2 ?_, ru, q⟩
  · rw [List.size_toArray, ← hlen]
    have hlt : xs.length < its.length := by omega
    simp [Array.eraseIdxIfInBounds, hlt]
    rw [List.dropLast_eq_take, ← hlen]
    simp [List.eraseIdx_eq_take_drop_succ]
    omega
  · rw [List.length_append] at z; omega
end
section
variable {K : Kw} {Z : Bs} {β : List Addr} {F H : Hp} {ρ : Rho} {S : Sto} {σ : L2.St}
/-- a cell is written -/
theorem Rl.cellSet (r : Rl K Z β F ρ S σ H) {n : Nat} {a : Addr} {ho : HO} {c c' : Cell} (hb : β[n]? = some a) (hc : S[n]? = some c) (hnd : live c = true) (hk : ∀ H2, H2 a = some ho → CellOk K β F H2 a c') : Rl K Z β F ρ (S.set n c') σ (upd H a ho) := by
  have hF : F a = none := r.st.out n a c hb hc hnd
  have hin : a ∈ β := List.mem_of_getElem? hb
  have hnl : n < S.length := (List.getElem?_eq_some_iff.mp hc).1
  have ne : ∀ {b : Addr}, b ≠ a → upd H a ho b = H b := fun h => upd_ne h
  have bn : ∀ (m : Nat) (b : Addr), n ≠ m → β[m]? = some b → b ≠ a := fun m b hm h z => by
    subst z
    exact hm ((List.getElem?_inj (List.getElem?_eq_some_iff.mp hb).1 r.st.nd).mp (hb.trans h.symm))
  have zin : ∀ b o, Z.H b = some o → b ∉ Z.β → b ≠ a := fun b o e nz z => by
    subst z
    obtain ⟨γ, eg, g⟩ := r.up.bb
    rw [eg] at hin
    rcases List.mem_append.mp hin with q | q
    · exact nz q
    · rw [g b q] at e; cases e
  refine ⟨r.len, fun b o e => ?_, ⟨r.up.bb, r.up.ff, r.up.nf, fun b o e nz => ?_, fun b o e => ?_⟩, ⟨by simp [r.st.len], r.st.nd, fun m b d h1 h2 hd => ?_, fun m b d h1 h2 => ?_⟩, r.val, fun j xs h => ?_, r.dist⟩
  · rw [ne (fun z => by rw [z, hF] at e; cases e)]; exact r.fh b o e
  · rw [ne (zin b o e nz)]; exact r.up.hh b o e nz
  · by_cases c1 : b = a
    · subst c1; exact ⟨_, upd_same⟩
    · rw [ne c1]; exact r.up.tr b o e
  · by_cases c1 : n = m
    · subst c1
      rw [hb] at h1
      cases h1
      exact hF
    · rw [List.getElem?_set_ne c1] at h2
      exact r.st.out m b d h1 h2 hd
  · by_cases c1 : n = m
    · subst c1
      rw [hb] at h1
      cases h1
      rw [List.getElem?_set_self hnl] at h2
      cases h2
      exact hk _ upd_same
    · rw [List.getElem?_set_ne c1] at h2
      exact (r.st.cell m b d h1 h2).mono (Sub.refl F) (fun _ _ e => e) fun o e => by rw [ne (bn m b c1 h1)]; exact e
  · obtain ⟨b, us, e1, e2, e3, e4, e5⟩ := r.own j xs h
    exact ⟨b, us, e1, by rw [ne (fun z => e4 (by rw [z]; exact hin))]; exact e2, e3, e4, e5⟩
theorem up_cellSet {β : List Addr} {F H : Hp} {n : Nat} {a : Addr} {ho : HO} (hb : β[n]? = some a) : Up β F H β F (upd H a ho) :=
  ⟨⟨[], by simp, by simp⟩, Sub.refl F, fun _ _ _ _ => rfl, fun b o e nb => by rw [upd_ne (fun z => nb (by rw [z]; exact List.mem_of_getElem? hb))]; exact e, fun b o e => by
    by_cases c1 : b = a
    · subst c1; exact ⟨_, upd_same⟩
    · rw [upd_ne c1]; exact ⟨o, e⟩⟩
end
/-! ### over the IR -/
section
variable {K : Kw} {wx : Wx} {P : Pg} {fu : Nat}
theorem fld_D {c : Nat} {o : E} {f : Str} {σ : L2.St} {H : Hp} {Q : VK} (hc : Cls K.K (clA K.K c)) (hn : NoAttr K.K (clA K.K c) f) (h : tE K wx P (.fld c o f) σ H Q) : tFld K.K (tE K wx P o) f σ H Q := by
  obtain ⟨Z, β, F, ρ, S, rl, h⟩ := h
  simp only [ev] at h
  refine ⟨Z, β, F, ρ, S, rl, h.bind.mono fun w β1 F1 S1 H1 u1 rl1 ⟨_, _, h1⟩ x rx => ?_⟩
  cases w with
  | d z => exact h1.elim
  | exc k => exact h1.elim
  | ref n =>
    obtain ⟨a, ha, rfl⟩ := rx
    dsimp only at h1
    cases q : S1[n]? with
    | none => rw [q] at h1; exact h1.elim
    | some cl =>
      rw [q] at h1
      cases cl with
      | ins k fs =>
        dsimp only at h1
        by_cases e : k = c
        · rw [if_pos e] at h1
          subst e
          obtain ⟨dx, gs, g1, g2⟩ := rl1.st.cell n a _ ha q
          cases l : fs.lookup f with
          | none => rw [l] at h1; exact h1.elim
          | some w =>
            rw [l] at h1
            obtain ⟨v, e1, e2⟩ := fld_look g2 l
            exact ⟨a, _, dx, gs, v, rfl, g1, hc, hn, e1, Pw.here (a := w) h1 rl1 v e2⟩
        · rw [if_neg e] at h1; exact h1.elim
      | _ => exact h1.elim
theorem mc_D {cls : Nat → Value} {Wc : WX} {c f : Nat} {m : Str} {o : E} {es : Es} {σ : L2.St} {H : Hp} {Q : VK} (hw : ∀ c σ H, wx c σ H → Wc (cls c) none σ H) (h : tE K wx P (.mc c f m o es) σ H Q) : tMethW (clA K.K c) m (spF K cls (P.fn f)) (WE Wc) (tE K wx P o) (tEs K wx P es) σ H Q := by
  obtain ⟨Z, β, F, ρ, S, rl, h⟩ := h
  simp only [ev] at h
  refine ⟨Z, β, F, ρ, S, rl, h.bind.mono fun w β1 F1 S1 H1 u1 rl1 ⟨_, _, h1⟩ x rx => ?_⟩
  cases w with
  | d z => exact h1.elim
  | exc k => exact h1.elim
  | ref n =>
    obtain ⟨a, ha, rfl⟩ := rx
    dsimp only at h1
    cases q : S1[n]? with
    | none => rw [q] at h1; exact h1.elim
    | some cl =>
      rw [q] at h1
      cases cl with
      | ins k fs =>
        dsimp only at h1
        by_cases e : k = c ∧ (fs.lookup m).isNone = true
        · rw [if_pos e] at h1
          obtain ⟨e, l⟩ := e
          subst e
          obtain ⟨dx, gs, g1, g2⟩ := rl1.st.cell n a _ ha q
          refine ⟨a, dx, gs, rfl, g1, fld_none g2 (Option.isNone_iff_eq_none.mp l), ?_⟩
          refine ⟨Z, β1, F1, ρ, S1, rl1, h1.bind.mono fun ws β2 F2 S2 H2 u2 rl2 ⟨_, _, h2⟩ vs rv => ⟨β2, F2, S2, .ref n :: ws, rl2.fh, rl2.st, .cons ⟨a, u2.get ha, rfl⟩ rv, ?_⟩⟩
          cases q : P.fn f (.ref n :: ws) S2 with
          | bad => rw [q] at h2; exact h2
          | ok w S' => rw [q] at h2; exact fun β' F' v H' u s st r => h2 β' F' H' u (rl2.next u s st) v r
          | ex c S' => rw [q] at h2; exact fun β' F' H' u s st => hw _ _ _ (h2 β' F' H' u (rl2.next u s st))
        · rw [if_neg e] at h1; exact h1.elim
      | _ => exact h1.elim
theorem up_stray {β : List Addr} {F H : Hp} {p : Addr} {o : HO} (hp : H p = none) : Up β F H β F (upd H p o) :=
  ⟨⟨[], by simp, by simp⟩, Sub.refl F, fun _ _ _ _ => rfl, fun a o e _ => by rw [upd_ne (ne_of_none e hp)]; exact e, fun a o e => ⟨o, by rw [upd_ne (ne_of_none e hp)]; exact e⟩⟩
theorem Rl.stray0 {Z : Bs} {β : List Addr} {F H : Hp} {ρ : Rho} {S : Sto} {σ : L2.St} (r : Rl K Z β F ρ S σ H) {p : Addr} {o : HO} (hp : H p = none) : Rl K Z β F ρ S σ (upd H p o) := by
  refine r.next (up_stray hp) (r.fh.trans (Sub.new hp)) ⟨r.st.len, r.st.nd, r.st.out, fun n a c h1 h2 => ?_⟩
  refine (r.st.cell n a c h1 h2).mono (Sub.refl F) (fun _ _ e => e) fun o e => ?_
  rw [upd_ne (ne_of_none e hp)]; exact e
theorem mk_D {cls : Nat → Value} {Wc : WX} {c f : Nat} {es : Es} {σ : L2.St} {H : Hp} {Q : VK} (hw : ∀ c σ H, wx c σ H → Wc (cls c) none σ H) (h : tE K wx P (.mk c f es) σ H Q) : tMakeW (clA K.K c) (spF K cls (P.fn f)) (WE Wc) (tEs K wx P es) σ H Q := by
  obtain ⟨Z, β, F, ρ, S, rl, h⟩ := h
  simp only [ev] at h
  refine ⟨Z, β, F, ρ, S, rl, h.bind.mono fun ws β1 F1 S1 H1 u1 rl1 ⟨_, _, h1⟩ vs rv => fun x dx hx hdx ne => ?_⟩
  have u2 : Up β1 F1 H1 β1 F1 (upd H1 dx (.own x)) := up_stray hdx
  have rl2 : Rl K Z β1 F1 ρ S1 σ (upd H1 dx (.own x)) := rl1.stray0 hdx
  have hx2 : upd H1 dx (.own x) x = none := by rw [upd_ne (Ne.symm ne)]; exact hx
  obtain ⟨u3, rl3, g⟩ := rl2.cell (c := .ins c []) (o := .ins (clA K.K c) dx []) hx2 ⟨dx, [], upd_same, .nil⟩
  refine ⟨β1 ++ [x], F1, S1 ++ [.ins c []], .ref S1.length :: ws, rl3.fh, rl3.st, .cons ⟨x, g, rfl⟩ (repWs_more rv), ?_⟩
  cases q : P.fn f (.ref S1.length :: ws) (S1 ++ [.ins c []]) with
  | bad => rw [q] at h1; exact h1
  | ex c' S' =>
    rw [q] at h1
    exact fun β' F' H' u s st => hw _ _ _ (h1 β' F' H' (u2.trans (u3.trans u)) (rl3.next u s st))
  | ok w S' =>
    rw [q] at h1
    intro β' F' v H' u s st r
    cases w with
    | ref n => exact h1.elim
    | exc n => exact h1.elim
    | d z =>
      cases z with
      | none =>
        cases (show Dp K.K F' v .none from r)
        exact ⟨rfl, h1 β' F' H' (u2.trans (u3.trans u)) (rl3.next u s st) (.ref x) ⟨x, u.get g, rfl⟩⟩
      | _ => exact h1.elim
theorem lenI_D {cls : Nat → Value} {c f : Nat} {o : E} {σ : L2.St} {H : Hp} {Q : VK} (h : tE K wx P (.lenI c f o) σ H Q) : tCB (rLenI (clA K.K c) (spF K cls (P.fn f))) (tCons (tE K wx P o) tNil) σ H Q := by
  obtain ⟨Z, β, F, ρ, S, rl, h⟩ := h
  simp only [ev] at h
  refine ⟨Z, β, F, ρ, S, rl, h.bind.mono fun w β1 F1 S1 H1 u1 rl1 ⟨_, _, h1⟩ x rx => ?_⟩
  cases w with
  | d z => exact h1.elim
  | exc k => exact h1.elim
  | ref n =>
    obtain ⟨a, ha, rfl⟩ := rx
    dsimp only at h1
    cases q : S1[n]? with
    | none => rw [q] at h1; exact h1.elim
    | some cl =>
      rw [q] at h1
      cases cl with
      | ins k fs =>
        dsimp only at h1
        by_cases e : k = c
        · rw [if_pos e] at h1
          subst e
          obtain ⟨dx, gs, g1, g2⟩ := rl1.st.cell n a _ ha q
          refine ⟨a, dx, gs, rfl, g1, β1, F1, S1, [.ref n], rl1.fh, rl1.st, .cons ⟨a, ha, rfl⟩ .nil, ?_⟩
          cases q : P.fn f [.ref n] S1 with
          | bad => rw [q] at h1; exact h1
          | ex c' S' => rw [q] at h1; exact h1.elim
          | ok w S' =>
            rw [q] at h1
            intro β' F' v H' u s st r
            cases w with
            | ref n => exact h1.elim
            | exc n => exact h1.elim
            | d z =>
              cases z with
              | int i =>
                cases (show Dp K.K F' v (.int i) from r)
                have h1 : Pw K Z ρ σ (fun c => wx c σ) β1 F1 H1 (if 0 ≤ i ∧ i < 1000000 then Res.ok (W.d (.int i)) S' else .bad) fun w β' F' _ H' => ∀ v, RepW K β' F' v w → Q v H' := h1
                by_cases e : 0 ≤ i ∧ i < 1000000
                · rw [if_pos e] at h1
                  exact ⟨i, rfl, e.1, e.2, h1 β' F' H' u (rl1.next u s st) (.int i) (.int i)⟩
                · rw [if_neg e] at h1; exact h1.elim
              | _ => exact h1.elim
        · rw [if_neg e] at h1; exact h1.elim
      | _ => exact h1.elim
theorem dps_last {K : PySem.W.Frag} {F : Hp} : ∀ {vs : List V} {ds : List PyData} {d : PyData}, DpAll K F vs ds → ds.getLast? = some d → ∃ us y, vs = us ++ [y] ∧ Dp K F y d ∧ DpAll K F us ds.dropLast
  | _, _, _, .nil, h => by cases h
  | _, _, _, .cons (v := v) hd .nil, h => by cases h; exact ⟨[], v, rfl, hd, .nil⟩
  | _, _, _, .cons (v := v) hd (.cons h1 h2), h => by
    obtain ⟨us, y, e, e1, e2⟩ := dps_last (.cons h1 h2) (by rw [List.getLast?_cons_cons] at h; exact h)
    exact ⟨v :: us, y, by rw [e]; rfl, e1, .cons hd e2⟩
theorem pop_D {o : E} {σ : L2.St} {H : Hp} {Q : VK} (h : tE K wx P (.pop o) σ H Q) : tBM0 K.K "list" rPopL (tE K wx P o) σ H Q := by
  obtain ⟨Z, β, F, ρ, S, rl, h⟩ := h
  simp only [ev] at h
  refine ⟨Z, β, F, ρ, S, rl, h.bind.mono fun w β1 F1 S1 H1 u1 rl1 ⟨_, _, h1⟩ x rx => ?_⟩
  cases w with
  | d z => exact h1.elim
  | exc k => exact h1.elim
  | ref n =>
    obtain ⟨a, ha, rfl⟩ := rx
    dsimp only at h1
    cases q : S1[n]? with
    | none => rw [q] at h1; exact h1.elim
    | some cl =>
      rw [q] at h1
      cases cl with
      | lst xs =>
        dsimp only at h1
        cases l : xs.getLast? with
        | none => rw [l] at h1; exact h1.elim
        | some z =>
          rw [l] at h1
          obtain ⟨vs, g1, g2⟩ := rl1.st.cell n a _ ha q
          obtain ⟨us, y, rfl, e1, e2⟩ := dps_last g2 l
          refine ⟨.inl ⟨rfl, _, .inl (.inl g1)⟩, a, us, y, rfl, rfl, g1, ?_⟩
          exact h1 _ _ _ (up_cellSet ha) (rl1.cellSet ha q rfl fun H2 e => ⟨us, e, e2⟩) y e1
      | _ => exact h1.elim
end
end FO

set_option Elab.async false
set_option linter.all false
set_option maxHeartbeats 2000000
set_option maxRecDepth 100000
namespace FO
open PySem PySem.Spec PyProof.Rows L2
/-! ### texts: join, split -/
section
variable {X : Cx}
theorem mt_joinD : MtR X "str.join" (rM1 X.K (bmD .join)) := by
  intro pins s σ H x xs v us Q I rx rxs h
  obtain ⟨F, y, d, e, r, rfl, sub, ha, hb, hf, g⟩ := h
  cases d with
  | str a => cases e with
    | list ds =>
      obtain ⟨ss, e1, e2⟩ := Option.bind_eq_some_iff.mp (show ((ds.mapM strOf).bind fun ss => if Nat.ble ((ss.map (·.length)).sum + ss.length * a.length) lim then some (PyData.str (Txt.join a ss)) else none) = some r from hf)
      by_cases c : Nat.ble ((ss.map (·.length)).sum + ss.length * a.length) lim = true
      · rw [if_pos c] at e2
        cases e2
        cases ha
        obtain ⟨p, vs, rfl, h1, h2⟩ := hb
        have ev := strs_dp h2 e1
        subst ev
        have hz : (ss.map (·.length)).sum + ss.length * a.length ≤ 1000000 := Nat.le_of_ble_eq_true c
        exact mt_join pins s σ H _ _ v us Q I rx rxs ⟨a, p, ss, rfl, rfl, .inl h1, by omega, g.sc sub (.str _)⟩
      · rw [if_neg c] at e2; cases e2
    | _ => exact nomatch hf
  | _ => exact nomatch hf
theorem mt_splitD : MtR X "str.split" (rM1 X.K (bmD .split)) := by
  intro pins s σ H x xs v us Q I rx rxs h
  obtain ⟨F, y, d, e, r, rfl, sub, ha, hb, hf, g⟩ := h
  cases d with
  | str a => cases e with
    | str b =>
      have hf : (if (Nat.blt 0 b.length && Nat.ble a.length lim) = true then some (PyData.list ((Txt.split a b).map .str)) else none) = some r := hf
      by_cases c : (Nat.blt 0 b.length && Nat.ble a.length lim) = true
      · rw [if_pos c] at hf
        obtain ⟨c1, c2⟩ := Bool.and_eq_true_iff.mp c
        have c1 : 0 < b.length := Nat.le_of_ble_eq_true c1
        have c2 : a.length ≤ 1000000 := Nat.le_of_ble_eq_true c2
        cases hf; cases ha; cases hb
        exact mt_split pins s σ H _ _ v us Q I rx rxs ⟨a, b, rfl, rfl, beq_eq_false_iff_ne.mpr (by omega), by rw [sizeLine_eq]; omega, fun p hp => g.lst sub (dps_strs _) p hp⟩
      · rw [if_neg c] at hf; cases hf
    | _ => exact nomatch hf
  | _ => exact nomatch hf
end
/-! ### a dict is stored into, by the display -/
section
variable {X : Cx} {pins : List (Addr × Obj)} {σ : L2.St} {H F : Hp} {s : Shared} {a : Addr} {o : Obj} {kvs : List (PyData × W)} {k : PyData} {β : List Addr} {y : V} {u : Value} {A : Around} {E : Value → Shared → Prop}
theorem dc_dictSet {w : W} {v : V} {r : Value} {Q : Unit → Shared → Prop} (hu : A.units + 9 < cLine) (I : Inv X pins σ H s) (sub : Sub F H) (h : H a = some (xO a o)) (d : DctOk (kx X) β F a o kvs) (few : kvs.length < 1000000) (hk : kOk kvs k = true) (kd : Dp X.K F y k) (ry : RelV y u) (rv : RelV v r) (rw' : RepW (kx X) β F v w)
    (hq : ∀ s' o', Inv X pins σ (upd H a (xO a o')) s' → DctOk (kx X) β F a o' (dput kvs k w) → Q () s') : wpAny (model X.prog X.w) A (dictSet a u r) Q E s := by
  obtain ⟨k1, k2⟩ := kOk_of d hk
  have hl : (dput kvs k w).length ≤ 1000000 := by have := dput_len kvs k w; omega
  obtain ⟨p1, p2⟩ := dput_one (w := w) d hk
  have mu : Mut (H a) := by rw [h]; exact True.intro
  cases ht : isTupD k with
  | true =>
    obtain ⟨xs, dd, r'⟩ := dc_H I sub h d fun p hp => (k2 p hp).trans ht
    obtain ⟨n1, n2⟩ := key_is I sub 8 k1 kd ry
    cases k with
    | tuple ds =>
      cases kd with
      | @tup t vs _ kq ks =>
        cases ry
        refine wpAny_dictSet_heap (knd := nestedKind X.prog X.w) (hsz := by rw [paired_len r']; exact szk d.few) (by show A.units + 8 < cLine; omega) ⟨n1, n2⟩ dd fun h' dd' hs => ?_
        obtain ⟨o', g, d'⟩ := dc_back d.sys dd' (put_H k1 (.tup kq ks) rv rw' r' d.keys.ok) hl p1 p2
        exact hq _ o' (d_write I mu hs ⟨o', g⟩ (xo_ok g)) d'
    | _ => cases ht
  | false =>
    obtain ⟨vs, dd, r'⟩ := dc_S I h d fun p hp => (k2 p hp).trans ht
    have e := rel_s k1 ht kd
    subst e
    refine wpAny_dictSet_pairs (hsz := by rw [paired_len r']; exact szk d.few) (kV_is ry) dd fun h' dd' hs => ?_
    obtain ⟨o', g, d'⟩ := dc_backS d.sys dd' (put_S ⟨k1, ht⟩ rv rw' r') hl
    exact hq _ o' (d_write I mu hs ⟨o', g⟩ (xo_ok g)) d'
end
abbrev emD : Obj := { cls := .type "dict", data := .dict #[] }
/-- the values of the pairs, one behind another -/
def flatP : List (Value × Value) → List Value
  | [] => []
  | (k, v) :: r => k :: v :: flatP r
section
variable {X : Cx}
/-- the pairs of a display -/
def mkP (env : Env) (pos : Pos) (ps : List (Expr × Expr)) : List (Sem Value × Sem Value) := ps.map fun p => (eval p.1 env, do let x ← eval p.2 env; standAt pos; pure x)
structure PA2 (X : Cx) (ps : List (Expr × Expr)) (t : TA) : Prop where
  run : ∀ (pos : Pos) (pins : List (Addr × Obj)) (s : Shared) (σ : L2.St) (H : Hp) (Q : List V → Hp → Prop), Inv X pins σ H s → t σ H Q → wpAny (model X.prog X.w) X.A (evalPairs (mkP X.env pos ps)) (fun vs s' => ∃ xs H', Inv X pins σ H' s' ∧ Vals xs (flatP vs) ∧ Q xs H') X.xe s
theorem pa2_nil : PA2 X [] tNil := ⟨fun pos pins s σ H Q I q => evalPairs_nil ⟨[], H, I, .nil, q⟩⟩
theorem pa2_cons {k v : Expr} {r : List (Expr × Expr)} {tk tv : TE} {t : TA} (hk : PE X k tk) (hv : PE X v tv) (hr : PA2 X r t) : PA2 X ((k, v) :: r) (tCons tk (tCons tv t)) := by
  refine ⟨fun pos pins s σ H Q I q => ?_⟩
  refine evalPairs_cons (thn (hk.run pins s σ H _ I q) fun u s1 ⟨x, H1, I1, r1, q1⟩ => ?_)
  refine wpAny_bind (thn (hv.run pins s1 σ H1 _ I1 q1) fun u2 s2 ⟨y, H2, I2, r2, q2⟩ => ?_)
  refine wpAny_bind (wpAny_standAt (wpAny_pure ?_))
  exact thn (hr.run pos pins s2 σ H2 _ I2 q2) fun us s3 ⟨xs, H3, I3, r3, q3⟩ => ⟨x :: y :: xs, H3, I3, .cons r1 (.cons r2 r3), q3⟩
theorem shape2 {env : Env} {pos : Pos} : ∀ ps : List (Expr × Expr), (evalEachOpt (ps.map fun p => some p.1) env).zip ((evalEach (ps.map (·.2)) env).map fun v => do let x ← v; standAt pos; pure x) = (mkP env pos ps).map fun p => (some p.1, p.2)
  | [] => rfl
  | p :: r => by
    have ih := shape2 (env := env) (pos := pos) r
    show ((some (eval p.1 env) :: evalEachOpt (r.map fun p => some p.1) env).zip ((eval p.2 env :: evalEach (r.map (·.2)) env).map fun v => do let x ← v; standAt pos; pure x)) = _
    rw [List.map_cons, List.zip_cons_cons, ih]
    rfl
/-- a dict display: the new dict stands, empty, while the pairs are evaluated -/
def tDict (X : Cx) (t : TA) : TE := fun σ H Q => ∀ d, H d = none → (d == sysModules) = false → t σ (upd H d (xO d emD)) fun xs H1 => ∃ β F ws kvs, H1 d = some (xO d emD) ∧ Sub F H1 ∧ RepWs (kx X) β F xs ws ∧ pairUp ws [] = some kvs ∧ F d = none ∧
  ∀ o', DctOk (kx X) β F d o' kvs → Q (.ref d) (upd H1 d (xO d o'))
theorem dct_empty {K : Kw} {β : List Addr} {F : Hp} {d : Addr} (h : (d == sysModules) = false) : DctOk K β F d emD [] :=
  ⟨h, ⟨rfl, rfl, rfl⟩, Nat.zero_le _, ⟨#[], _, rfl, .nil⟩, ⟨(fun k hk => nomatch hk), (fun k hk => nomatch hk), List.nodup_nil⟩⟩
theorem upd_upd {H : Hp} {a : Addr} {o1 o2 : HO} : upd (upd H a o1) a o2 = upd H a o2 := by
  funext b
  by_cases c : b = a
  · subst c; rw [upd_same, upd_same]
  · rw [upd_ne c, upd_ne c, upd_ne c]
theorem run_store {pins : List (Addr × Obj)} {σ : L2.St} {H F : Hp} {d : Addr} {β : List Addr} {Q : PUnit → Shared → Prop} {E : Value → Shared → Prop} (hu : X.A.units + 9 < cLine) (sub : Sub F H) (fd : F d = none) (hH : H d = some (xO d emD)) : ∀ (vs : List (Value × Value)) (xs : List V) (ws : List W) (acc kvs : List (PyData × W)) (o : Obj) (s : Shared),
    Vals xs (flatP vs) → RepWs (kx X) β F xs ws → pairUp ws acc = some kvs → acc.length + vs.length ≤ 1000 → Inv X pins σ (upd H d (xO d o)) s → DctOk (kx X) β F d o acc →
    (∀ s' o', Inv X pins σ (upd H d (xO d o')) s' → DctOk (kx X) β F d o' kvs → Q PUnit.unit s') →
    wpAny (model X.prog X.w) X.A (forIn vs PUnit.unit fun (x : Value × Value) (_ : PUnit) => (do dictSet d x.1 x.2; pure (ForInStep.yield PUnit.unit) : Sem (ForInStep PUnit))) Q E s
  | [], xs, ws, acc, kvs, o, s, rv, rw', hp, _, I, dk, hQ => by
    cases rv
    cases rw'
    cases hp
    rw [List.forIn_nil]
    exact wpAny_pure (hQ s o I dk)
  | (ku, vu) :: vs, _, _, acc, kvs, o, s, .cons r1 (.cons r2 rr), .cons w1 (.cons w2 wr), hp, hlen, I, dk, hQ => by
    rename_i x y xs wk wv ws
    rw [List.length_cons] at hlen
    rw [List.forIn_cons]
    cases wk with
    | ref n => cases hp
    | exc n => cases hp
    | d k =>
      have hp : (if kOk acc k = true then pairUp ws (dput acc k wv) else none) = some kvs := hp
      by_cases c : kOk acc k = true
      · rw [if_pos c] at hp
        have sub2 : Sub F (upd H d (xO d o)) := fun b u e => by
          rw [upd_ne (fun z => by rw [z, fd] at e; cases e)]
          exact sub b u e
        refine wpAny_bind (wpAny_bind (dc_dictSet hu I sub2 upd_same dk (by omega) c w1 r1 r2 w2 fun s' o' I' d' => wpAny_pure ?_))
        rw [upd_upd] at I'
        exact run_store hu sub fd hH vs xs ws (dput acc k wv) kvs o' s' rr wr hp (by have := dput_len acc k wv; omega) I' d' hQ
      · rw [if_neg c] at hp; cases hp
theorem pe_dict {ps : List (Expr × Expr)} {t : TA} {pos : Pos} (hu : X.A.units + 9 < cLine) (h0 : ps ≠ []) (hlen : ps.length ≤ 15) (hp : PA2 X ps t) : PE X (.Dict (ps.map fun p => some p.1) (ps.map (·.2)) pos) (tDict X t) := by
  refine ⟨fun pins s σ H Q I h => ?_⟩
  rw [arm_eval_Dict, shape2, dictDisplay_pairs _ (by unfold mkP; simpa using h0) (by unfold mkP; rw [List.length_map]; omega)]
  refine wpAny_bind (wpAny_standAt (wpAny_bind ?_))
  have hd0 : H s.heap.objs.size = none := I.hok.fresh (Nat.le_refl _)
  have hsy : (s.heap.objs.size == sysModules) = false := beq_eq_false_iff_ne.mpr (Nat.ne_of_gt I.big)
  have q := h s.heap.objs.size hd0 hsy
  have eget : (s.heap.push emD).get? s.heap.objs.size = some emD := Heap.get?_push_size _ rfl
  have I1 : Inv X pins σ (upd H s.heap.objs.size (xO s.heap.objs.size emD)) { s with heap := s.heap.push emD } := I.laid (t' := s.toks) (fun _ _ q => Heap.get?_push_of_some _ q) (Nat.le_refl _) (xo_ok eget)
  unfold subDict
  refine wpAny_bind (wpAny_alloc ?_)
  refine wpAny_bind (wpAny_holding ?_)
  rw [if_pos (by unfold mkP; rw [List.length_map]; exact hlen)]
  refine wpAny_bind (wpAny_mono (wpAny_evalPairs_len (hp.run pos pins _ σ _ _ I1 q)) (fun vs s₁ h₁ => ?_) fun _ _ e => e)
  obtain ⟨hvl, xs, H1, I2, rv, β, F, ws, kvs, e1, sub, rws, hpu, fd, hQ⟩ := h₁
  refine wpAny_holding ?_
  have hl2 : vs.length ≤ 15 := by rw [hvl]; unfold mkP; rw [List.length_map]; exact hlen
  have eH : upd H1 s.heap.objs.size (xO s.heap.objs.size emD) = H1 := by
    funext b
    by_cases c : b = s.heap.objs.size
    · subst c; rw [upd_same, e1]
    · rw [upd_ne c]
  refine wpAny_bind (run_store (H := H1) (d := s.heap.objs.size) hu sub fd e1 vs xs ws [] kvs emD s₁ rv rws hpu (by simp; omega) (by rw [eH]; exact I2) (dct_empty hsy) fun s' o' I' d' => wpAny_pure (wpAny_pure (wpAny_pure ?_)))
  exact ⟨.ref s.heap.objs.size, _, I', rfl, hQ o' d'⟩
theorem pe_dict0 {pos : Pos} : PE X (.Dict [] [] pos) (tDict X tNil) := by
  refine ⟨fun pins s σ H Q I h => ?_⟩
  have hd0 : H s.heap.objs.size = none := I.hok.fresh (Nat.le_refl _)
  have hsy : (s.heap.objs.size == sysModules) = false := beq_eq_false_iff_ne.mpr (Nat.ne_of_gt I.big)
  obtain ⟨β, F, ws, kvs, e1, sub, rws, hpu, fd, hQ⟩ := h s.heap.objs.size hd0 hsy
  cases rws
  cases hpu
  have eget : (s.heap.push emD).get? s.heap.objs.size = some emD := Heap.get?_push_size _ rfl
  have q := hQ emD (dct_empty hsy)
  rw [upd_upd] at q
  exact wpAny_Dict_empty ⟨.ref s.heap.objs.size, _, I.laid (t' := s.toks) (fun _ _ q => Heap.get?_push_of_some _ q) (Nat.le_refl _) (xo_ok eget), rfl, q⟩
end
/-! ### a stray object becomes a cell -/
section
variable {K : Kw} {Z : Bs} {β β1 : List Addr} {F F1 H H1 : Hp} {ρ : Rho} {S S1 : Sto} {σ : L2.St}
theorem Rl.adopt {d : Addr} {o o2 : HO} {c : Cell} (r0 : Rl K Z β F ρ S σ H) (hp : H d = none) (u : Up β F (upd H d o) β1 F1 H1) (r1 : Rl K Z β1 F1 ρ S1 σ H1) (hc : CellOk K (β1 ++ [d]) F1 (upd H1 d o2) d c) :
    F1 d = none ∧ Up β F H (β1 ++ [d]) F1 (upd H1 d o2) ∧ Rl K Z (β1 ++ [d]) F1 ρ (S1 ++ [c]) σ (upd H1 d o2) ∧ (β1 ++ [d])[S1.length]? = some d := by
  have hin0 : d ∉ β := fun hm => by
    obtain ⟨o', e⟩ := r0.st.there hm
    rw [hp] at e; cases e
  have hZ : Z.H d = none := by
    cases e : Z.H d with
    | none => rfl
    | some o' => obtain ⟨o'', q⟩ := r0.up.tr d o' e; rw [hp] at q; cases q
  obtain ⟨γ, eγ, gγ⟩ := u.bb
  have hγ : ∀ a ∈ γ, a ≠ d ∧ H a = none := fun a ha => by
    have := gγ a ha
    have ne : a ≠ d := fun z => by rw [z, upd_same] at this; cases this
    rw [upd_ne ne] at this
    exact ⟨ne, this⟩
  have hin : d ∉ β1 := fun hm => by
    rw [eγ] at hm
    rcases List.mem_append.mp hm with z | z
    · exact hin0 z
    · exact (hγ d z).1 rfl
  have hF : F1 d = none := by
    rw [u.nf d o upd_same hin0]
    exact r0.fh.none hp
  have hl := r1.st.len
  have get : (β1 ++ [d])[S1.length]? = some d := by rw [← hl, List.getElem?_append_right (Nat.le_refl _)]; simp
  have up1 : Up β F H (β1 ++ [d]) F1 (upd H1 d o2) := by
    refine ⟨⟨γ ++ [d], by rw [eγ, List.append_assoc], fun a ha => ?_⟩, u.ff, fun a o' e n => ?_, fun a o' e n => ?_, fun a o' e => ?_⟩
    · rcases List.mem_append.mp ha with z | z
      · exact (hγ a z).2
      · have : a = d := by simpa using z
        rw [this]; exact hp
    · exact u.nf a o' (by rw [upd_ne (ne_of_none e hp)]; exact e) n
    · rw [upd_ne (ne_of_none e hp)]
      exact u.hh a o' (by rw [upd_ne (ne_of_none e hp)]; exact e) n
    · rw [upd_ne (ne_of_none e hp)]
      exact u.tr a o' (by rw [upd_ne (ne_of_none e hp)]; exact e)
  refine ⟨hF, up1, ⟨r1.len, fun a o' e => ?_, ?_, ⟨by simp [hl], ?_, fun n a c' h1 h2 hd => ?_, fun n a c' h1 h2 => ?_⟩, fun i w h => ?_, fun i xs h => ?_, r1.dist⟩, get⟩
  · rw [upd_ne (fun z => by rw [z, hF] at e; cases e)]; exact r1.fh a o' e
  · obtain ⟨δ, eδ, gδ⟩ := r1.up.bb
    refine ⟨⟨δ ++ [d], by rw [eδ, List.append_assoc], fun a ha => ?_⟩, r1.up.ff, r1.up.nf, fun a o' e n => ?_, fun a o' e => ?_⟩
    · rcases List.mem_append.mp ha with z | z
      · exact gδ a z
      · have : a = d := by simpa using z
        rw [this]; exact hZ
    · rw [upd_ne (ne_of_none e hZ)]; exact r1.up.hh a o' e n
    · rw [upd_ne (ne_of_none e hZ)]; exact r1.up.tr a o' e
  · refine List.nodup_append.mpr ⟨r1.st.nd, by simp, fun a ha b hb => ?_⟩
    have : b = d := by simpa using hb
    subst this
    intro e; subst e; exact hin ha
  · by_cases hn : n < S1.length
    · rw [List.getElem?_append_left (by omega)] at h1
      rw [List.getElem?_append_left hn] at h2
      exact r1.st.out n a c' h1 h2 hd
    · have hn2 : n = S1.length := by
        have := (List.getElem?_eq_some_iff.mp h2).1
        rw [List.length_append, List.length_singleton] at this
        omega
      subst hn2
      rw [get] at h1
      cases h1
      exact hF
  · by_cases hn : n < S1.length
    · rw [List.getElem?_append_left (by omega)] at h1
      rw [List.getElem?_append_left hn] at h2
      have hne : a ≠ d := fun z => hin (z ▸ List.mem_of_getElem? h1)
      exact (r1.st.cell n a c' h1 h2).mono (Sub.refl F1) (fun m b e => by rw [List.getElem?_append_left (List.getElem?_eq_some_iff.mp e).1]; exact e) fun o e => by rw [upd_ne hne]; exact e
    · have hn2 : n = S1.length := by
        have := (List.getElem?_eq_some_iff.mp h2).1
        rw [List.length_append, List.length_singleton] at this
        omega
      subst hn2
      rw [get] at h1
      rw [List.getElem?_append_right (Nat.le_refl _)] at h2
      simp at h2
      cases h1
      subst h2
      exact hc
  · obtain ⟨v, h1, h2⟩ := r1.val i w h
    exact ⟨v, h1, repW_mono (Sub.refl F1) (fun m b e => by rw [List.getElem?_append_left (List.getElem?_eq_some_iff.mp e).1]; exact e) h2⟩
  · obtain ⟨a, vs, h1, h2, h3, h4, h5, h6⟩ := r1.own i xs h
    obtain ⟨a', vs', k1, k2, _⟩ := r0.own i xs h
    rw [h1] at k1
    cases k1
    have hne : a ≠ d := ne_of_none k2 hp
    refine ⟨a, vs, h1, by rw [upd_ne hne]; exact h2, h3, fun hm => ?_, h5, h6⟩
    rcases List.mem_append.mp hm with z | z
    · exact h4 z
    · exact hne (by simpa using z)
end
section
variable {X : Cx} {wx : Wx} {P : Pg}
theorem dnew_D {es : Es} {σ : L2.St} {H : Hp} {Q : VK} (h : tE (kx X) wx P (.dnew es) σ H Q) : tDict X (tEs (kx X) wx P es) σ H Q := by
  obtain ⟨Z, β, F, ρ, S, rl, h⟩ := h
  simp only [ev] at h
  intro d hd hsy
  refine ⟨Z, β, F, ρ, S, rl.stray0 hd, ?_⟩
  cases q : evs P es ρ S with
  | bad => rw [q] at h; exact h
  | ex c S1 => rw [q] at h; exact fun β' F' H' u r => h β' F' H' ((up_stray hd).trans u) r
  | ok ws S1 =>
    rw [q] at h
    intro β1 F1 H1 u1 rl1 xs rv
    have h : Pw (kx X) Z ρ σ (fun c => wx c σ) β F H (match pairUp ws [] with
      | some kvs => Res.ok (W.ref S1.length) (S1 ++ [.dct kvs])
      | none => .bad) fun w β' F' _ H' => ∀ v, RepW (kx X) β' F' v w → Q v H' := h
    cases hp : pairUp ws [] with
    | none => rw [hp] at h; exact h.elim
    | some kvs =>
      rw [hp] at h
      have hin0 : d ∉ β := fun hm => by
        obtain ⟨o', e⟩ := rl.st.there hm
        rw [hd] at e; cases e
      have hH1 : H1 d = some (xO d emD) := u1.hh d _ upd_same hin0
      have hF1 : F1 d = none := by
        rw [u1.nf d _ upd_same hin0]
        exact rl.fh.none hd
      refine ⟨β1, F1, ws, kvs, hH1, rl1.fh, rv, hp, hF1, fun o' dk => ?_⟩
      obtain ⟨_, up, rl2, g⟩ := Rl.adopt (o2 := xO d o') (c := .dct kvs) rl hd u1 rl1 ⟨o', upd_same, dk.mono (Sub.refl F1) fun m b e => by rw [List.getElem?_append_left (List.getElem?_eq_some_iff.mp e).1]; exact e⟩
      exact h _ _ _ up rl2 (.ref d) ⟨d, g, rfl⟩
/-! ### methods of dicts -/
def tDM (to : TE) (r : V → List V → Hp → VK → Prop) (t : TA) : TE := fun σ H Q => to σ H fun x H1 => (∃ a o, x = .ref a ∧ H1 a = some (xO a o) ∧ o.ExactDict) ∧ t σ H1 fun xs H2 => r x xs H2 Q
theorem pe_dm {o e : Expr} {es : List Expr} {to : TE} {t : TA} {name : Str} {apos cpos : Pos} {id : String} {r : V → List V → Hp → VK → Prop} (slot : Slot "dict" name id) (hty : typeOf (.builtin id) = pure (.type "method_descriptor")) (hm : MtR X id r) (ho : PE X o to) (ha : PA X (e :: es) t)
    (hbase : attributeBase o name X.env (eval o X.env) = eval o X.env)
    (hfew : ((backTo cpos (starEach (e :: es) X.env)).all (fun x => !x.1) && (backToKw cpos (keywordEach [] X.env)).all (fun x => x.1.isSome)
      && decide ((e :: es).length + ([] : List Keyword).length + (if ([] : List Keyword).isEmpty then 0 else 1) < 30)) = true)
    (hline : (apos.endLine == cpos.line) = true) (hs : starEach (e :: es) X.env = (false, eval e X.env) :: starEach es X.env) (hplain : (backTo cpos (starEach es X.env)).any (·.1) = false) :
    PE X (.Call (.Attribute o name apos) (e :: es) [] cpos) (tDM to r t) := by
  refine ⟨fun pins s σ H Q I h => ?_⟩
  refine wpAny_Call_method_late hbase hfew hline rfl (thn (ho.run pins s σ H _ I h) fun v s1 ⟨x, H1, I1, r1, ⟨a, ob, ex, hH, exd⟩, q1⟩ => ?_)
  subst ex
  cases r1
  have hg := xo_get I1 hH
  refine ⟨"dict", id, PySem.F.plainAttrs_dict, slot, hty, ⟨ob, hg, exd.1⟩, fun b e => by cases e; exact ⟨ob, hg, exd.2.1⟩, ?_⟩
  have hA := ha.run cpos pins s1 σ H1 _ I1 q1
  rw [hs] at hA ⊢
  refine Calls.callWith_builtin (by show (false || (backTo cpos (starEach es X.env)).any (·.1)) = false; rw [hplain] <;> rfl) (Calls.evalArgs_plain ?_)
  exact thn hA fun us s2 ⟨vs, H2, I2, r2, q2⟩ => hm pins s2 σ H2 (.ref a) vs (.ref a) us Q I2 rfl r2 q2
def rSetd (X : Cx) : V → List V → Hp → VK → Prop := fun x xs H Q => ∃ (β : List Addr) (F : Hp) (a : Addr) (o : Obj) (kvs : List (PyData × W)) (k : PyData) (y v : V) (z : W), x = .ref a ∧ xs = [y, v] ∧ Sub F H ∧ H a = some (xO a o) ∧ DctOk (kx X) β F a o kvs ∧ kvs.length < 1000000 ∧ kOk kvs k = true ∧ Dp X.K F y k ∧ RepW (kx X) β F v z ∧
  (∀ w, dget kvs k = some w → ∀ v', RepW (kx X) β F v' w → Q v' H) ∧ (dget kvs k = none → ∀ o', DctOk (kx X) β F a o' (kvs ++ [(k, z)]) → Q v (upd H a (xO a o')))
theorem mt_setd (hu : X.A.units + 9 < cLine) : MtR X "dict.setdefault" (rSetd X) := by
  intro pins s σ H x xs v us Q I rx rxs h
  obtain ⟨β, F, a, o, kvs, k, y, v, z, rfl, rfl, sub, hH, d, few, hk, kd, rz, q1, q2⟩ := h
  cases rx
  cases rxs with
  | cons r1 rr =>
    cases rr with
    | cons r2 rr =>
      cases rr
      exact dc_setd hu I sub hH d few hk kd r1 r2 rz (fun w e u' s' v' I' rv' rw' => ⟨v', H, I', rv', q1 w e v' rw'⟩) fun e s' o' I' d' => ⟨v, _, I', r2, q2 e o' d'⟩
def rGetD (X : Cx) : V → List V → Hp → VK → Prop := fun x xs H Q => ∃ (β : List Addr) (F : Hp) (a : Addr) (o : Obj) (kvs : List (PyData × W)) (k : PyData) (y v : V) (z : W), x = .ref a ∧ xs = [y, v] ∧ Sub F H ∧ H a = some (xO a o) ∧ DctOk (kx X) β F a o kvs ∧ kOk kvs k = true ∧ Dp X.K F y k ∧ RepW (kx X) β F v z ∧
  ∀ v', RepW (kx X) β F v' ((dget kvs k).getD z) → Q v' H
theorem mt_get2 (hu : X.A.units + 9 < cLine) : MtR X "dict.get" (rGetD X) := by
  intro pins s σ H x xs v us Q I rx rxs h
  obtain ⟨β, F, a, o, kvs, k, y, v, z, rfl, rfl, sub, hH, d, hk, kd, rz, q1⟩ := h
  cases rx
  cases rxs with
  | cons r1 rr =>
    cases rr with
    | cons r2 rr =>
      cases rr
      exact dc_get2 hu I sub hH d hk kd r1 r2 rz fun u' s' v' I' rv' rw' => ⟨v', H, I', rv', q1 v' rw'⟩
def rGetN (X : Cx) : V → List V → Hp → VK → Prop := fun x xs H Q => ∃ (β : List Addr) (F : Hp) (a : Addr) (o : Obj) (kvs : List (PyData × W)) (k : PyData) (y : V), x = .ref a ∧ xs = [y] ∧ Sub F H ∧ H a = some (xO a o) ∧ DctOk (kx X) β F a o kvs ∧ kOk kvs k = true ∧ Dp X.K F y k ∧
  ∀ v', RepW (kx X) β F v' ((dget kvs k).getD (.d .none)) → Q v' H
theorem mt_get1 (hu : X.A.units + 9 < cLine) : MtR X "dict.get" (rGetN X) := by
  intro pins s σ H x xs v us Q I rx rxs h
  obtain ⟨β, F, a, o, kvs, k, y, rfl, rfl, sub, hH, d, hk, kd, q1⟩ := h
  cases rx
  obtain ⟨u, rfl, r1⟩ := rxs.one
  exact dc_get1 hu I sub hH d hk kd r1 fun u' s' v' I' rv' rw' => ⟨v', H, I', rv', q1 v' rw'⟩
/-- a dict's cell, as it stands -/
theorem dct_cell {Z : Bs} {β : List Addr} {F H : Hp} {ρ : Rho} {S : Sto} {σ : L2.St} {n : Nat} {a : Addr} {kvs : List (PyData × W)} (rl : Rl (kx X) Z β F ρ S σ H) (ha : β[n]? = some a) (h : dctAt S n = some kvs) : ∃ o, H a = some (xO a o) ∧ DctOk (kx X) β F a o kvs := by
  unfold dctAt at h
  cases q : S[n]? with
  | none => rw [q] at h; cases h
  | some c =>
    rw [q] at h
    cases c with
    | dct k2 => cases h; obtain ⟨o, k1, k2⟩ := rl.st.cell n a _ ha q; exact ⟨o, k1, k2⟩
    | lck k2 => cases h; obtain ⟨o, k1, _, k2⟩ := rl.st.cell n a _ ha q; exact ⟨o, k1, k2⟩
    | _ => cases h
theorem setd_D {o k x : E} {σ : L2.St} {H : Hp} {Q : VK} (h : tE (kx X) wx P (.setd o k x) σ H Q) : tDM (tE (kx X) wx P o) (rSetd X) (tCons (tE (kx X) wx P k) (tCons (tE (kx X) wx P x) tNil)) σ H Q := by
  obtain ⟨Z, β, F, ρ, S, rl, h⟩ := h
  simp only [ev] at h
  refine ⟨Z, β, F, ρ, S, rl, h.bind.mono fun w β1 F1 S1 H1 u1 rl1 ⟨_, _, h1⟩ v rv => ?_⟩
  cases w with
  | d z => exact h1.elim
  | exc n => exact h1.elim
  | ref n =>
    obtain ⟨a, ha, rfl⟩ := rv
    dsimp only at h1
    cases q : dctAt S1 n with
    | none => rw [q] at h1; exact h1.elim
    | some kv0 =>
      rw [q] at h1
      obtain ⟨o0, g1, g2⟩ := dct_cell rl1 ha q
      refine ⟨⟨a, o0, rfl, g1, g2.ex⟩, Z, β1, F1, ρ, S1, rl1, (Pw.bind (R := ev P k ρ S1) h1).mono fun wk β2 F2 S2 H2 u2 rl2 ⟨_, _, h2⟩ y ry => ?_⟩
      refine ⟨Z, β2, F2, ρ, S2, rl2, h2.bind.mono fun wz β3 F3 S3 H3 u3 rl3 ⟨_, _, h3⟩ z rz => ?_⟩
      have ha3 := u3.get (u2.get ha)
      have ry3 := repW_up u3 ry
      cases wk with
      | ref m =>
        cases qc : S3[n]? with
        | none => rw [qc] at h3; exact h3.elim
        | some c => rw [qc] at h3; cases c <;> exact h3.elim
      | exc m =>
        cases qc : S3[n]? with
        | none => rw [qc] at h3; exact h3.elim
        | some c => rw [qc] at h3; cases c <;> exact h3.elim
      | d yk =>
        cases qc : S3[n]? with
        | none => rw [qc] at h3; exact h3.elim
        | some c =>
          rw [qc] at h3
          cases c with
          | dct kvs =>
            dsimp only at h3
            by_cases cc : (kOk kvs yk && Nat.blt kvs.length lim) = true
            · rw [if_pos cc] at h3
              obtain ⟨c1, c2⟩ := Bool.and_eq_true_iff.mp cc
              have few : kvs.length < 1000000 := Nat.le_of_ble_eq_true c2
              obtain ⟨ob, k1, k2⟩ := rl3.st.cell n a _ ha3 qc
              refine ⟨β3, F3, a, ob, kvs, yk, y, z, wz, rfl, rfl, rl3.fh, k1, k2, few, c1, ry3, rz, fun w e v' rv' => ?_, fun e o' d' => ?_⟩
              · rw [e] at h3
                exact Pw.here h3 rl3 v' rv'
              · rw [e] at h3
                exact h3 _ _ _ (up_cellSet ha3) (rl3.cellSet ha3 qc rfl fun H4 e => ⟨o', e, d'⟩) z rz
            · rw [if_neg cc] at h3; exact h3.elim
          | _ => exact h3.elim
theorem get2_D {o k x : E} {σ : L2.St} {H : Hp} {Q : VK} (h : tE (kx X) wx P (.get2 o k x) σ H Q) : tDM (tE (kx X) wx P o) (rGetD X) (tCons (tE (kx X) wx P k) (tCons (tE (kx X) wx P x) tNil)) σ H Q := by
  obtain ⟨Z, β, F, ρ, S, rl, h⟩ := h
  simp only [ev] at h
  refine ⟨Z, β, F, ρ, S, rl, h.bind.mono fun w β1 F1 S1 H1 u1 rl1 ⟨_, _, h1⟩ v rv => ?_⟩
  cases w with
  | d z => exact h1.elim
  | exc n => exact h1.elim
  | ref n =>
    obtain ⟨a, ha, rfl⟩ := rv
    dsimp only at h1
    cases q : dctAt S1 n with
    | none => rw [q] at h1; exact h1.elim
    | some kv0 =>
      rw [q] at h1
      obtain ⟨o0, g1, g2⟩ := dct_cell rl1 ha q
      refine ⟨⟨a, o0, rfl, g1, g2.ex⟩, Z, β1, F1, ρ, S1, rl1, (Pw.bind (R := ev P k ρ S1) h1).mono fun wk β2 F2 S2 H2 u2 rl2 ⟨_, _, h2⟩ y ry => ?_⟩
      refine ⟨Z, β2, F2, ρ, S2, rl2, h2.bind.mono fun wz β3 F3 S3 H3 u3 rl3 ⟨_, _, h3⟩ z rz => ?_⟩
      have ha3 := u3.get (u2.get ha)
      have ry3 := repW_up u3 ry
      cases qc : dctAt S3 n with
      | none => rw [qc] at h3; exact h3.elim
      | some kvs =>
        rw [qc] at h3
        cases wk with
        | ref m => exact h3.elim
        | exc m => exact h3.elim
        | d yk =>
          dsimp only at h3
          by_cases cc : kOk kvs yk = true
          · rw [if_pos cc] at h3
            obtain ⟨ob, k1, k2⟩ := dct_cell rl3 ha3 qc
            exact ⟨β3, F3, a, ob, kvs, yk, y, z, wz, rfl, rfl, rl3.fh, k1, k2, cc, ry3, rz, fun v' rv' => Pw.here h3 rl3 v' rv'⟩
          · rw [if_neg cc] at h3; exact h3.elim
theorem get1_D {o k : E} {σ : L2.St} {H : Hp} {Q : VK} (h : tE (kx X) wx P (.get1 o k) σ H Q) : tDM (tE (kx X) wx P o) (rGetN X) (tCons (tE (kx X) wx P k) tNil) σ H Q := by
  obtain ⟨Z, β, F, ρ, S, rl, h⟩ := h
  simp only [ev] at h
  refine ⟨Z, β, F, ρ, S, rl, h.bind.mono fun w β1 F1 S1 H1 u1 rl1 ⟨_, _, h1⟩ v rv => ?_⟩
  cases w with
  | d z => exact h1.elim
  | exc n => exact h1.elim
  | ref n =>
    obtain ⟨a, ha, rfl⟩ := rv
    dsimp only at h1
    cases q : dctAt S1 n with
    | none => rw [q] at h1; exact h1.elim
    | some kv0 =>
      rw [q] at h1
      obtain ⟨o0, g1, g2⟩ := dct_cell rl1 ha q
      refine ⟨⟨a, o0, rfl, g1, g2.ex⟩, Z, β1, F1, ρ, S1, rl1, (Pw.bind (R := ev P k ρ S1) h1).mono fun wk β2 F2 S2 H2 u2 rl2 ⟨_, _, h2⟩ y ry => ?_⟩
      have ha2 := u2.get ha
      cases qc : dctAt S2 n with
      | none => rw [qc] at h2; exact h2.elim
      | some kvs =>
        rw [qc] at h2
        cases wk with
        | ref m => exact h2.elim
        | exc m => exact h2.elim
        | d yk =>
          dsimp only at h2
          by_cases cc : kOk kvs yk = true
          · rw [if_pos cc] at h2
            obtain ⟨ob, k1, k2⟩ := dct_cell rl2 ha2 qc
            exact ⟨β2, F2, a, ob, kvs, yk, y, rfl, rfl, rl2.fh, k1, k2, cc, ry, fun v' rv' => Pw.here h2 rl2 v' rv'⟩
          · rw [if_neg cc] at h2; exact h2.elim
end
end FO

set_option Elab.async false
set_option linter.all false
set_option maxHeartbeats 2000000
set_option maxRecDepth 10000
namespace FO
open PySem L2
def freeNames : List Str := ["len", "list", "tuple", "min", "max", "sum", "all", "any", "sorted", "set", "isinstance", "range", "enumerate", "int", "str", "bool", "zip", "dict", "abs", "ValueError"]
/-- a body's context: the names, the defs' promises, what may leave -/
structure Good (sx : Sx) (P : Pg) (N : List Str) (sc : Scope) (wx : Wx) (cls : Nat → Value) (X : Cx) : Prop where
  hN : X.N = N
  nd : N.Nodup
  calm : X.calm = true
  hu : X.A.units + 65 < cLine
  vis : ∀ x, visB (sc.names.lookup x) = true → Vis X.env.scope x
  gl : ∀ x, glB (sc.names.lookup x) = true → Gl X x
  cf : ∀ x, (sc.names.lookup x = some .cell ∨ sc.names.lookup x = some .free) → (X.env.scope.names.lookup x = some .cell ∨ X.env.scope.names.lookup x = some .free)
  tk : ∃ Wc : WX, Takes X Wc ∧ ∀ c σ H, wx c σ H → Wc (cls c) none σ H
  free : ∀ x ∈ freeNames, X.mg x = none
  gcs : ∀ (i : Nat) (x : Str) (d : PyData), sx.gcs.lookup x = some i → P.gc i = some d → ∃ v u, X.mg x = some u ∧ RelV v u ∧ ∀ F, Dp X.K F v d
  exg : ∀ (c : Nat) (x : Str), sx.exs[c]? = some x → (x == ("" : Str)) = false → X.mg x = some (cls c) ∧ cls c = .ref (exA X.K c)
  exi : sx.full = true → ∀ k, k < 8 → ExcC X.K (exA X.K k) ∧ PySem.W.kitOne X.K (.ref (exA X.K k)) (.type "ValueError") = some true ∧ ∀ c, c < 8 → PySem.W.kitOne X.K (.ref (exA X.K k)) (.ref (exA X.K c)) = some (exSub k c)
  flds : ∀ (c : Nat) (f : Str), sx.flds.lookup f = some c → Cls X.K (clA X.K c) ∧ NoAttr X.K (clA X.K c) f
  mks : ∀ (x : Str) (c f : Nat), sx.mks.lookup x = some (c, f) → ∃ k a fd ps, FnOk X.prog X.w X.K X.mg X.base (L2.CX X.prog X.w) k a fd ps (spF (kx X) cls (P.fn f)) ∧ Room (k + 1) X.A ∧ X.mg x = some (.ref (clA X.K c)) ∧ Mk X.K (clA X.K c) a ∧ Binds X.K fd ps []
  mts : ∀ (m : Str) (c f : Nat), sx.mts.lookup m = some (c, f) → ∃ k a fd ps, FnOk X.prog X.w X.K X.mg X.base (L2.CX X.prog X.w) k a fd ps (spF (kx X) cls (P.fn f)) ∧ Room k X.A ∧ Cls X.K (clA X.K c) ∧ Meth X.K (clA X.K c) m a ∧ Binds X.K fd ps []
  lens : ∀ (y : Str) (c f : Nat), sx.lens.lookup y = some (c, f) → ∃ k a fd ps, FnOk X.prog X.w X.K X.mg X.base (L2.CX X.prog X.w) k a fd ps (spF (kx X) cls (P.fn f)) ∧ Room (k + 1) X.A ∧ Meth X.K (clA X.K c) "__len__" a ∧ Binds X.K fd ps []
  fns : ∀ (f : Nat) (x : Str), sx.fns.lookup x = some f → ∃ k a fd ps, FnOk X.prog X.w X.K X.mg X.base (L2.CX X.prog X.w) k a fd ps (spF (kx X) cls (P.fn f)) ∧ Room k X.A ∧ X.mg x = some (.ref a) ∧ PySem.W.keepIn X.K (.ref a) = true ∧ Binds X.K fd ps []
theorem star_not {e : Expr} {es : List Expr} {env : Env} (h : isStar e = false) : starEach (e :: es) env = (false, eval e env) :: starEach es env := by
  cases e <;> first | rfl | (cases h)
theorem any_back {pos : Pos} : ∀ {l : List (Bool × Sem Value)}, (∀ x ∈ l, x.1 = false) → (backTo pos l).any (·.1) = false
  | [], _ => rfl
  | x :: r, h => by
    unfold backTo
    rw [List.map_cons, List.any_cons]
    have h1 := h x (List.mem_cons_self)
    have h2 := any_back (pos := pos) (l := r) fun y hy => h y (List.mem_cons_of_mem _ hy)
    obtain ⟨b, t⟩ := x
    have h1 : b = false := h1
    subst h1
    rw [Bool.false_or]
    exact h2
theorem debug_ne {x : Str} (h : ¬ x = "__debug__") : (x == ("__debug__" : Str)) = false := beq_eq_false_iff_ne.mpr h
theorem set_not {op : CmpOp} {b : Expr} (h : isSet b = false) : behindInMarks op b = false := by
  cases b <;> first | rfl | (cases h)
theorem folded_not {e : Expr} {env : Env} (h : isSet e = false) : ∀ x, foldedSetIterable e env x = pure x := by
  intro x
  cases e <;> first | rfl | (cases h)
theorem cmO_of (o : CmpOp) : cmO (cmpOf o) = o := by cases o <;> rfl
theorem opO_of {op : Operator} {o : BinO} (h : binOf op = some o) : op = opO o := by
  cases op <;> first | (cases h; done) | (cases h; rfl)
theorem lookup_map {f : Str → NameKind → NameKind} : ∀ (l : List (Str × NameKind)) (x : Str), (l.map fun p => (p.1, f p.1 p.2)).lookup x = (l.lookup x).map (f x)
  | [], _ => rfl
  | (n, k) :: r, x => by
    rw [List.map_cons, List.lookup_cons, List.lookup_cons]
    cases c : x == n with
    | true =>
      have : x = n := by simpa using c
      subst this
      rfl
    | false => exact lookup_map r x
def relK (env : Env) (n : Str) (k : NameKind) : NameKind := if (k == NameKind.free && env.scope.kind == .function && env.kindOf n == some .cell) = true then .cell else k
theorem relabel_lookup (scope : Scope) (env : Env) (x : Str) : (relabel scope env).names.lookup x = (scope.names.lookup x).map (relK env x) := by
  have e : (relabel scope env).names = scope.names.map fun p => (p.1, relK env p.1 p.2) := by
    unfold relabel relK
    apply List.map_congr_left
    rintro ⟨n, k⟩ _
    dsimp only
    split <;> rfl
  rw [e, lookup_map]
theorem relK_of {env : Env} {n : Str} {k : NameKind} : relK env n k = k ∨ (k = .free ∧ relK env n k = .cell) := by
  unfold relK
  by_cases c : (k == NameKind.free && env.scope.kind == .function && env.kindOf n == some .cell) = true
  · rw [if_pos c]
    refine .inr ⟨?_, rfl⟩
    simp only [Bool.and_eq_true] at c
    exact eq_of_beq c.1.1
  · rw [if_neg c]; exact .inl rfl
section
variable {sx : Sx} {P : Pg} {N : List Str} {sc : Scope} {wx : Wx} {cls : Nat → Value} {X : Cx}
theorem Good.blk (g : Good sx P N sc wx cls X) (s : Shared) (H : Hp) (scope : Scope) (cl : List (Str × Addr)) (C : Addr) (fp : List Addr) : Good sx P N scope wF cls (X.blk s H scope (compEnvC scope cl C X.env) fp) where
  hN := g.hN
  nd := g.nd
  calm := g.calm
  hu := g.hu
  vis := fun x h => by
    show Vis (relabel scope X.env) x
    unfold Vis
    rw [relabel_lookup]
    cases q : scope.names.lookup x with
    | none => rw [q] at h; cases h
    | some k =>
      rw [q] at h
      rcases relK_of (env := X.env) (n := x) (k := k) with e | ⟨e1, e2⟩
      · rw [Option.map_some, e]
        cases k with
        | «local» => exact .inl rfl
        | cell => exact .inr (.inl rfl)
        | free => exact .inr (.inr rfl)
        | globalExplicit => cases h
        | globalImplicit => cases h
      · rw [Option.map_some, e2]; exact .inr (.inl rfl)
  gl := fun x h => by
    show (relabel scope X.env).names.lookup x = some .globalImplicit
    rw [relabel_lookup]
    cases q : scope.names.lookup x with
    | none => rw [q] at h; cases h
    | some k =>
      rw [q] at h
      cases k with
      | globalImplicit =>
        rcases relK_of (env := X.env) (n := x) (k := .globalImplicit) with e | ⟨e1, _⟩
        · rw [Option.map_some, e]
        · cases e1
      | _ => cases h
  cf := fun x h => by
    show (relabel scope X.env).names.lookup x = some .cell ∨ (relabel scope X.env).names.lookup x = some .free
    rw [relabel_lookup]
    rcases h with h | h
    · rw [h]
      rcases relK_of (env := X.env) (n := x) (k := .cell) with e | ⟨e1, _⟩
      · rw [Option.map_some, e]; exact .inl rfl
      · cases e1
    · rw [h]
      rcases relK_of (env := X.env) (n := x) (k := .free) with e | ⟨_, e⟩
      · rw [Option.map_some, e]; exact .inr rfl
      · rw [Option.map_some, e]; exact .inl rfl
  tk := ⟨fun _ _ _ _ => False, fun u s' ⟨_, _, _, _, _, _, _, _, _, _, _, _, _, _, _, _, w⟩ => w.elim, fun _ _ _ h => h.elim⟩
  free := g.free
  gcs := g.gcs
  exg := g.exg
  exi := g.exi
  flds := g.flds
  mks := g.mks
  mts := g.mts
  lens := g.lens
  fns := g.fns
theorem blkOk_of (g : Good sx P N sc wx cls X) {scope : Scope} {own : List (Str × Nat)} (h : blkC N sc scope own = true) : BlkOk X.N X.env.scope scope own := by
  have b := blkOk_by h
  exact ⟨b.kind, b.uniq, by rw [g.hN]; exact b.ix, fun y hy e => g.cf _ (b.free y hy e), by rw [g.hN]; exact b.own⟩
theorem loc_blk {s : Shared} {H : Hp} {scope : Scope} {cl : List (Str × Addr)} {C : Addr} {fp : List Addr} {x : Str} (h : locB (scope.names.lookup x) = true) : LocOk (X.blk s H scope (compEnvC scope cl C X.env) fp) x := by
  have e : ∀ k, scope.names.lookup x = some k → k ≠ .free → (relabel scope X.env).names.lookup x = some k := fun k q nk => by
    rw [relabel_lookup, q]
    rcases relK_of (env := X.env) (n := x) (k := k) with e | ⟨e1, _⟩
    · rw [Option.map_some, e]
    · exact absurd e1 nk
  cases q : scope.names.lookup x with
  | none => rw [q] at h; cases h
  | some k =>
    cases k with
    | «local» => exact ⟨.inl (e _ q (by decide)), .inr (e _ q (by decide))⟩
    | cell => exact ⟨.inr (e _ q (by decide)), .inl (by show (scope.names.lookup x == some .cell) = true; rw [q]; rfl)⟩
    | free => rw [q] at h; cases h
    | globalExplicit => rw [q] at h; cases h
    | globalImplicit => rw [q] at h; cases h
theorem own_names {N : List Str} {t : Tg} {x : Str} (h : x ∈ tgNames N t) : ∃ i, (x, i) ∈ ownOf N (tgOwn t) := by
  unfold tgNames at h
  obtain ⟨i, hi, e⟩ := List.mem_filterMap.mp h
  exact ⟨i, List.mem_filterMap.mpr ⟨i, hi, by rw [e]; rfl⟩⟩

/-! ### the pieces -/
/-- what is shown of an expression -/
structure Snd (X : Cx) (wx : Wx) (P : Pg) (e : Expr) (ie : E) : Prop where
  pe : PE X e (tE (kx X) wx P ie)
  pt : PT X e (tT (kx X) wx P ie)
  pw : (∃ op vs pos, e = .BoolOp op vs pos) → PW X e (tT (kx X) wx P ie)
  pa : PE X e (tA (kx X) wx P ie)
/-- an expression whose test is its value -/
theorem snd_val {e : Expr} {ie : E} (h : PE X e (tE (kx X) wx P ie)) (hv : ∀ i, ie ≠ .v i) (ht : ∀ whole, isTrue e X.env whole = (do let v ← whole; standAt e.pos; holding [v] (truthy v))) (hb : ∀ op vs pos, e ≠ .BoolOp op vs pos) : Snd X wx P e ie :=
  ⟨h, PT.imp (pt_val h ht) fun σ H Q q => tT_tE q, fun ⟨op, vs, pos, z⟩ => absurd z (hb op vs pos), PE.imp h fun σ H Q q => tA_tE hv q⟩
theorem var_D {i : Nat} {σ : St} {H : Hp} {Q : VK} (h : tE (kx X) wx P (.v i) σ H Q) : tVar i σ H Q := by
  obtain ⟨Z, β, F, ρ, S, rl, h⟩ := h
  simp only [ev] at h
  cases q : ρ[i]? with
  | none => rw [q] at h; exact h.elim
  | some s =>
    rw [q] at h
    cases s with
    | un => exact h.elim
    | own xs => exact h.elim
    | val w =>
      obtain ⟨v, e1, e2⟩ := rl.val i w q
      exact ⟨v, e1, Pw.here h rl v e2⟩
theorem var_A {i : Nat} {σ : St} {H : Hp} {Q : VK} (h : tA (kx X) wx P (.v i) σ H Q) : tVar i σ H Q := by
  obtain ⟨Z, β, F, ρ, S, rl, h⟩ := h
  simp only [argm, ev] at h
  cases q : ρ[i]? with
  | none => rw [q] at h; exact h.elim
  | some s =>
    rw [q] at h
    cases s with
    | un => exact h.elim
    | own xs =>
      obtain ⟨a, vs, e1, _⟩ := rl.own i xs q
      exact ⟨_, e1, Pw.here h rl _ (.inr ⟨i, xs, rfl, q, rfl, e1⟩)⟩
    | val w =>
      obtain ⟨v, e1, e2⟩ := rl.val i w q
      exact ⟨v, e1, Pw.here h rl v (.inl e2)⟩
theorem const_D {x : PyData} {v : V} (hd : ∀ F, Dp X.K F v x) {σ : St} {H : Hp} {Q : VK} (h : tE (kx X) wx P (.c x) σ H Q) : tC v σ H Q := by
  obtain ⟨Z, β, F, ρ, S, rl, h⟩ := h
  simp only [ev] at h
  exact Pw.here h rl v (hd F)
theorem glob_D {i : Nat} {v : V} (hd : ∀ d F, P.gc i = some d → Dp X.K F v d) {σ : St} {H : Hp} {Q : VK} (h : tE (kx X) wx P (.g i) σ H Q) : tC v σ H Q := by
  obtain ⟨Z, β, F, ρ, S, rl, h⟩ := h
  simp only [ev] at h
  cases q : P.gc i with
  | none => rw [q] at h; exact h.elim
  | some d =>
    rw [q] at h
    exact Pw.here (a := W.d d) h rl v (hd d F q)
end
end FO

set_option Elab.async false
set_option linter.all false
set_option maxHeartbeats 4000000
set_option maxRecDepth 10000
namespace FO
open PySem PySem.Spec L2
section
variable {sx : Sx} {P : Pg} {N : List Str} {cls : Nat → Value}
theorem bind_of {α β : Type} {o : Option α} {f : α → Option β} {r : β} (h : o.bind f = some r) : ∃ a, o = some a ∧ f a = some r := Option.bind_eq_some_iff.mp h
theorem ite_of {c : Prop} [Decidable c] {α : Type} {a b : Option α} {r : α} (h : (if c then a else b) = some r) : (c ∧ a = some r) ∨ (¬ c ∧ b = some r) := by
  by_cases hc : c
  · rw [if_pos hc] at h; exact .inl ⟨hc, h⟩
  · rw [if_neg hc] at h; exact .inr ⟨hc, h⟩
theorem biOf_ok {f : Str} {b : Bi} (hb : biOf f = some b) : (f = "len" ∧ b = .len) ∨ (f = "list" ∧ b = .list) ∨ (f = "tuple" ∧ b = .tuple) ∨ (f = "min" ∧ b = .min) ∨ (f = "max" ∧ b = .max) ∨ (f = "sum" ∧ b = .sum) ∨ (f = "all" ∧ b = .all) ∨ (f = "any" ∧ b = .any) ∨ (f = "sorted" ∧ b = .sorted) ∨ (f = "str" ∧ b = .str) ∨ (f = "int" ∧ b = .int) := by
  unfold biOf at hb
  rcases ite_of hb with ⟨e, hb⟩ | ⟨_, hb⟩
  · cases hb; exact .inl ⟨e, rfl⟩
  rcases ite_of hb with ⟨e, hb⟩ | ⟨_, hb⟩
  · cases hb; exact .inr (.inl ⟨e, rfl⟩)
  rcases ite_of hb with ⟨e, hb⟩ | ⟨_, hb⟩
  · cases hb; exact .inr (.inr (.inl ⟨e, rfl⟩))
  rcases ite_of hb with ⟨e, hb⟩ | ⟨_, hb⟩
  · cases hb; exact .inr (.inr (.inr (.inl ⟨e, rfl⟩)))
  rcases ite_of hb with ⟨e, hb⟩ | ⟨_, hb⟩
  · cases hb; exact .inr (.inr (.inr (.inr (.inl ⟨e, rfl⟩))))
  rcases ite_of hb with ⟨e, hb⟩ | ⟨_, hb⟩
  · cases hb; exact .inr (.inr (.inr (.inr (.inr (.inl ⟨e, rfl⟩)))))
  rcases ite_of hb with ⟨e, hb⟩ | ⟨_, hb⟩
  · cases hb; exact .inr (.inr (.inr (.inr (.inr (.inr (.inl ⟨e, rfl⟩))))))
  rcases ite_of hb with ⟨e, hb⟩ | ⟨_, hb⟩
  · cases hb; exact .inr (.inr (.inr (.inr (.inr (.inr (.inr (.inl ⟨e, rfl⟩)))))))
  rcases ite_of hb with ⟨e, hb⟩ | ⟨_, hb⟩
  · cases hb; exact .inr (.inr (.inr (.inr (.inr (.inr (.inr (.inr (.inl ⟨e, rfl⟩))))))))
  rcases ite_of hb with ⟨e, hb⟩ | ⟨_, hb⟩
  · cases hb; exact .inr (.inr (.inr (.inr (.inr (.inr (.inr (.inr (.inr (.inl ⟨e, rfl⟩)))))))))
  rcases ite_of hb with ⟨e, hb⟩ | ⟨_, hb⟩
  · cases hb; exact .inr (.inr (.inr (.inr (.inr (.inr (.inr (.inr (.inr (.inr ⟨e, rfl⟩)))))))))
  cases hb
/-- one builtin of one argument -/
theorem bi_PE {sc : Scope} {wx : Wx} {X : Cx} (g : Good sx P N sc wx cls X) {f : Str} {b : Bi} {a : Expr} {ia : E} {p pos : Pos} (hb : biOf f = some b) (hgl : glB (sc.names.lookup f) = true) (hs : isStar a = false) (ha : PE X a (tA (kx X) wx P ia)) :
    PE X (.Call (.Name f p) [a] [] pos) (tE (kx X) wx P (.bi b ia)) := by
  have st := star_not (es := []) (env := X.env) hs
  have pa : PA X [a] (tCons (tA (kx X) wx P ia) tNil) := pa_cons ha pa_nil st
  have fin : ∀ {b : Bi} {σ : St} {H : Hp} {Q : VK}, tE (kx X) wx P (.bi b ia) σ H Q → tCB (rD1 X.K (biD b)) (tCons (tA (kx X) wx P ia) tNil) σ H Q := fun {b σ H Q} q => by
    obtain ⟨Z, β, F, ρ, S, rl, h⟩ := q
    simp only [ev] at h
    exact one_D ⟨Z, β, F, ρ, S, rl, h⟩
  have fr : ∀ x ∈ freeNames, f = x → X.mg f = none := fun x hx e => by rw [e]; exact g.free x hx
  rcases biOf_ok hb with ⟨rfl, rfl⟩ | ⟨rfl, rfl⟩ | ⟨rfl, rfl⟩ | ⟨rfl, rfl⟩ | ⟨rfl, rfl⟩ | ⟨rfl, rfl⟩ | ⟨rfl, rfl⟩ | ⟨rfl, rfl⟩ | ⟨rfl, rfl⟩ | ⟨rfl, rfl⟩ | ⟨rfl, rfl⟩
  · exact PE.imp (pe_callB call_lenD' (g.gl _ hgl) (fr _ (by decide +kernel) rfl) (by decide +kernel) pa (by decide) (by decide) st rfl) fun σ H Q q => fin q
  · exact PE.imp (pe_callTy (call_listD g.calm) (g.gl _ hgl) (fr _ (by decide +kernel) rfl) (by decide +kernel) pa (by decide) (by decide) st rfl) fun σ H Q q => fin q
  · exact PE.imp (pe_callTy call_tupleD (g.gl _ hgl) (fr _ (by decide +kernel) rfl) (by decide +kernel) pa (by decide) (by decide) st rfl) fun σ H Q q => fin q
  · exact PE.imp (pe_callB (call_minD g.calm) (g.gl _ hgl) (fr _ (by decide +kernel) rfl) (by decide +kernel) pa (by decide) (by decide) st rfl) fun σ H Q q => fin q
  · exact PE.imp (pe_callB (call_maxD g.calm) (g.gl _ hgl) (fr _ (by decide +kernel) rfl) (by decide +kernel) pa (by decide) (by decide) st rfl) fun σ H Q q => fin q
  · exact PE.imp (pe_callB (call_sumD g.calm) (g.gl _ hgl) (fr _ (by decide +kernel) rfl) (by decide +kernel) pa (by decide) (by decide) st rfl) fun σ H Q q => fin q
  · exact PE.imp (pe_callB (call_allD g.calm) (g.gl _ hgl) (fr _ (by decide +kernel) rfl) (by decide +kernel) pa (by decide) (by decide) st rfl) fun σ H Q q => fin q
  · exact PE.imp (pe_callB (call_anyD g.calm) (g.gl _ hgl) (fr _ (by decide +kernel) rfl) (by decide +kernel) pa (by decide) (by decide) st rfl) fun σ H Q q => fin q
  · exact PE.imp (pe_callB (call_sortedD g.calm g.hu) (g.gl _ hgl) (fr _ (by decide +kernel) rfl) (by decide +kernel) pa (by decide) (by decide) st rfl) fun σ H Q q => fin q
  · exact PE.imp (pe_callTy call_strD (g.gl _ hgl) (fr _ (by decide +kernel) rfl) (by decide +kernel) pa (by decide) (by decide) st rfl) fun σ H Q q => fin q
  · exact PE.imp (pe_callTy call_intD (g.gl _ hgl) (fr _ (by decide +kernel) rfl) (by decide +kernel) pa (by decide) (by decide) st rfl) fun σ H Q q => fin q
end
end FO

set_option Elab.async false
set_option linter.all false
set_option maxHeartbeats 4000000
set_option maxRecDepth 10000
namespace FO
open PySem PySem.Spec L2
theorem tT_back {K : Kw} {wx : Wx} {P : Pg} {b : E} {σ : St} {H : Hp} {Q : VK} (h : ∃ q : Bool → Hp → Prop, tT K wx P b σ H q ∧ ∀ k H', q k H' → Q (.bl k) H') : tE K wx P b σ H Q := by
  obtain ⟨q, ⟨Z, β, F, ρ, S, rl, h⟩, hq⟩ := h
  refine ⟨Z, β, F, ρ, S, rl, h.mono fun w β' F' S' H' _ _ ⟨b, e, r⟩ v rv => ?_⟩
  subst e
  cases (show Dp K F' v (.bool b) from rv)
  exact hq b H' r
theorem plain_ix {b : Expr} (h : isSlice b = false) : PlainIx b := by
  intro o i
  cases b <;> first | rfl | (cases h)
theorem base_not {o : Expr} {m : Str} {env : Env} {t : Sem Value} (h : isCall0 o = false) : attributeBase o m env t = t := by
  cases o <;> first | rfl | (cases h)
theorem bmOf_ok {f : Str} {b : Bm} (hb : bmOf f = some b) : (f = "index" ∧ b = .index) ∨ (f = "startswith" ∧ b = .startswith) ∨ (f = "count" ∧ b = .count) ∨ (f = "join" ∧ b = .join) ∨ (f = "split" ∧ b = .split) := by
  unfold bmOf at hb
  rcases ite_of hb with ⟨e, hb⟩ | ⟨_, hb⟩
  · cases hb; exact .inl ⟨e, rfl⟩
  rcases ite_of hb with ⟨e, hb⟩ | ⟨_, hb⟩
  · cases hb; exact .inr (.inl ⟨e, rfl⟩)
  rcases ite_of hb with ⟨e, hb⟩ | ⟨_, hb⟩
  · cases hb; exact .inr (.inr (.inl ⟨e, rfl⟩))
  rcases ite_of hb with ⟨e, hb⟩ | ⟨_, hb⟩
  · cases hb; exact .inr (.inr (.inr (.inl ⟨e, rfl⟩)))
  rcases ite_of hb with ⟨e, hb⟩ | ⟨_, hb⟩
  · cases hb; exact .inr (.inr (.inr (.inr ⟨e, rfl⟩)))
  cases hb
theorem tyOf_ok {f : Str} {t : Ty} (h : tyOf f = some t) : f ∈ freeNames ∧ bootBuiltins f = some (.type (tyN t)) ∧ f ≠ "__name__" ∧ (f == ("__debug__" : Str)) = false := by
  unfold tyOf at h
  rcases ite_of h with ⟨rfl, hb⟩ | ⟨_, h⟩
  · cases hb; exact ⟨by decide +kernel, by decide +kernel, by decide, by decide⟩
  rcases ite_of h with ⟨rfl, hb⟩ | ⟨_, h⟩
  · cases hb; exact ⟨by decide +kernel, by decide +kernel, by decide, by decide⟩
  rcases ite_of h with ⟨rfl, hb⟩ | ⟨_, h⟩
  · cases hb; exact ⟨by decide +kernel, by decide +kernel, by decide, by decide⟩
  rcases ite_of h with ⟨rfl, hb⟩ | ⟨_, h⟩
  · cases hb; exact ⟨by decide +kernel, by decide +kernel, by decide, by decide⟩
  rcases ite_of h with ⟨rfl, hb⟩ | ⟨_, h⟩
  · cases hb; exact ⟨by decide +kernel, by decide +kernel, by decide, by decide⟩
  cases h
section
variable {sx : Sx} {P : Pg} {N : List Str} {cls : Nat → Value}
theorem cE_star {n : Nat} {sc : Scope} {e : Expr} {ie : E} (h : cE sx N n sc e = some ie) : isStar e = false := by
  cases e <;> first | rfl | (cases n <;> (unfold cE at h; cases h))
/-- what is shown of a list of arguments -/
structure SndA (X : Cx) (wx : Wx) (P : Pg) (es : List Expr) (ies : Es) : Prop where
  pa : PA X es (tEs (kx X) wx P ies)
  st : ∀ x ∈ starEach es X.env, x.1 = false
  hd : ∀ e r, es = e :: r → starEach es X.env = (false, eval e X.env) :: starEach r X.env ∧ ∀ x ∈ starEach r X.env, x.1 = false
variable (sx P N cls) in
def AllE (n : Nat) : Prop := ∀ (sc : Scope) (wx : Wx) (X : Cx), Good sx P N sc wx cls X → ∀ e ie, cE sx N n sc e = some ie → Snd X wx P e ie
variable (sx P N cls) in
def AllA (n : Nat) : Prop := ∀ (sc : Scope) (wx : Wx) (X : Cx), Good sx P N sc wx cls X → ∀ es ies, cEs sx N n sc es = some ies → SndA X wx P es ies
variable (sx P N cls) in
def AllI (n : Nat) : Prop := ∀ (sc : Scope) (wx : Wx) (X : Cx), Good sx P N sc wx cls X → ∀ tg e it, cI sx N n sc e = some it → enumOk tg it = true → PI X tg e (iD (kx X) wx P it) ∧ isSet e = false
section
variable {sc : Scope} {wx : Wx} {X : Cx} {n : Nat}
theorem s_const (g : Good sx P N sc wx cls X) {c : Const} {j : Nat} {pos : Pos} {ie : E} (h : (constOf c).map E.c = some ie) : Snd X wx P (.Constant c j pos) ie := by
  obtain ⟨d, h1, rfl⟩ := map_of h
  have key : PE X (.Constant c j pos) (tE (kx X) wx P (.c d)) := by
    cases c <;> first
      | (cases h1; exact PE.imp pe_non fun σ H Q q => const_D (fun F => .non) q)
      | (cases h1; exact PE.imp pe_bl fun σ H Q q => const_D (fun F => .bl _) q)
      | (cases h1; exact PE.imp pe_int fun σ H Q q => const_D (fun F => .int _) q)
      | (cases h1; exact PE.imp pe_str fun σ H Q q => const_D (fun F => .str _) q)
      | (cases h1; done)
  exact snd_val key (fun i z => by cases z) (fun _ => rfl) (fun _ _ _ z => by cases z)
theorem s_name (g : Good sx P N sc wx cls X) {x : Str} {pos : Pos} {ie : E} (h : (if x = "__debug__" ∨ x = "__classdict__" then none else if visB (sc.names.lookup x) then (slotOf N x).map E.v
        else if glB (sc.names.lookup x) then (sx.gcs.lookup x).map E.g else none) = some ie) : Snd X wx P (.Name x pos) ie := by
  rcases ite_of h with ⟨_, h⟩ | ⟨hd, h⟩
  · cases h
  have hd1 : (x == ("__debug__" : Str)) = false := debug_ne fun z => hd (.inl z)
  have hd2 : (x == ("__classdict__" : Str)) = false := beq_eq_false_iff_ne.mpr fun z => hd (.inr z)
  rcases ite_of h with ⟨hv, h⟩ | ⟨_, h⟩
  · obtain ⟨i, h1, rfl⟩ := map_of h
    have pv := pe_var (X := X) (i := i) (x := x) (pos := pos) (by rw [g.hN]; exact slotOf_ok h1) (g.vis x hv) hd1 hd2
    have pe : PE X (.Name x pos) (tE (kx X) wx P (.v i)) := PE.imp pv fun σ H Q q => var_D q
    exact ⟨pe, PT.imp (pt_val pe fun _ => rfl) fun σ H Q q => tT_tE q, fun ⟨_, _, _, z⟩ => (by cases z), PE.imp pv fun σ H Q q => var_A q⟩
  rcases ite_of h with ⟨hgl, h⟩ | ⟨_, h⟩
  · obtain ⟨i, h1, rfl⟩ := map_of h
    have hi := h1
    refine snd_val ?_ (fun i z => by cases z) (fun _ => rfl) (fun _ _ _ z => by cases z)
    refine ⟨fun pins s σ H Q I q => ?_⟩
    have q0 := q
    obtain ⟨Z, β, F, ρ, S, rl, q⟩ := q
    simp only [ev] at q
    cases e : P.gc i with
    | none => rw [e] at q; exact q.elim
    | some d =>
      obtain ⟨v, u, m, r, dp⟩ := g.gcs i x d hi e
      exact (pe_glob (g.gl x hgl) m r hd1).run pins s σ H Q I (glob_D (fun d' F e' => by rw [e] at e'; cases e'; exact dp F) q0)
  · cases h
theorem s_tup (ia : AllA sx P N cls n) (g : Good sx P N sc wx cls X) {es : List Expr} {k : Nat} {pos : Pos} {ie : E} (h : (cEs sx N n sc es).map E.tup = some ie) : Snd X wx P (.Tuple es k pos) ie := by
  obtain ⟨ies, h1, rfl⟩ := map_of h
  exact snd_val (PE.imp (pe_tup (ia sc wx X g es ies h1).pa) fun σ H Q q => tup_D q) (fun i z => by cases z) (fun _ => rfl) (fun _ _ _ z => by cases z)
theorem s_lst (ia : AllA sx P N cls n) (g : Good sx P N sc wx cls X) {es : List Expr} {pos : Pos} {ie : E} (h : (cEs sx N n sc es).map E.lst = some ie) : Snd X wx P (.List es pos) ie := by
  obtain ⟨ies, h1, rfl⟩ := map_of h
  exact snd_val (PE.imp (pe_lst (ia sc wx X g es ies h1).pa) fun σ H Q q => lst_D q) (fun i z => by cases z) (fun _ => rfl) (fun _ _ _ z => by cases z)
theorem s_bin (iE : AllE sx P N cls n) (g : Good sx P N sc wx cls X) {a b : Expr} {op : Operator} {pos : Pos} {ie : E} (h : ((binOf op).bind fun o => (cE sx N n sc a).bind fun x => (cE sx N n sc b).map fun y => E.bin o x y) = some ie) : Snd X wx P (.BinOp a op b pos) ie := by
  obtain ⟨o, h0, h⟩ := bind_of h
  obtain ⟨x, h1, h⟩ := bind_of h
  obtain ⟨y, h2, rfl⟩ := map_of h
  have e := opO_of h0
  subst e
  refine snd_val (PE.imp (pe_op (op_binD o) (iE sc wx X g a x h1).pa (iE sc wx X g b y h2).pa) fun σ H Q q => ?_) (fun i z => by cases z) (fun _ => rfl) (fun _ _ _ z => by cases z)
  obtain ⟨Z, β, F, ρ, S, rl, q⟩ := q
  simp only [ev] at q
  exact two_D ⟨Z, β, F, ρ, S, rl, q⟩
theorem s_not (iE : AllE sx P N cls n) (g : Good sx P N sc wx cls X) {a : Expr} {pos : Pos} {ie : E} (h : (cE sx N n sc a).map E.not = some ie) : Snd X wx P (.UnaryOp .Not a pos) ie := by
  obtain ⟨x, h1, rfl⟩ := map_of h
  have s := iE sc wx X g a x h1
  have pe : PE X (.UnaryOp .Not a pos) (tE (kx X) wx P (.not x)) := PE.imp (pe_not s.pe) fun σ H Q q => not_D q
  exact ⟨pe, PT.imp (pt_not s.pt) fun σ H Q q => not_T q, fun ⟨_, _, _, z⟩ => (by cases z), PE.imp pe fun σ H Q q => tA_tE (fun i z => by cases z) q⟩
theorem s_neg (iE : AllE sx P N cls n) (g : Good sx P N sc wx cls X) {a : Expr} {pos : Pos} {ie : E} (h : (cE sx N n sc a).map E.neg = some ie) : Snd X wx P (.UnaryOp .USub a pos) ie := by
  obtain ⟨x, h1, rfl⟩ := map_of h
  have s := iE sc wx X g a x h1
  exact snd_val (PE.imp (pe_un un_neg s.pe) fun σ H Q q => neg_D q) (fun i z => by cases z) (fun _ => rfl) (fun _ _ _ z => by cases z)
theorem s_one {op : BoolOp} {a : Expr} {pos : Pos} {x : E} (s : Snd X wx P a x) (pw : PW X (.BoolOp op [a] pos) (tT (kx X) wx P x)) : Snd X wx P (.BoolOp op [a] pos) x :=
  ⟨pe_one s.pe, pw.pt, fun _ => pw, pe_one s.pa⟩
theorem s_and (iE : AllE sx P N cls n) (g : Good sx P N sc wx cls X) {a b : Expr} {r : List Expr} {pos : Pos} {ie : E} (h : ((cE sx N n sc a).bind fun x => (cE sx N n sc (.BoolOp .And (b :: r) pos)).map fun y => E.and x y) = some ie) : Snd X wx P (.BoolOp .And (a :: b :: r) pos) ie := by
  obtain ⟨x, h1, h⟩ := bind_of h
  obtain ⟨y, h2, rfl⟩ := map_of h
  have s1 := iE sc wx X g a x h1
  have s2 := iE sc wx X g _ y h2
  have pe : PE X (.BoolOp .And (a :: b :: r) pos) (tE (kx X) wx P (.and x y)) := PE.imp (pe_and s1.pe (PE.imp s2.pe fun σ H Q q => tT_back q)) fun σ H Q q => and_D q
  have pw : PW X (.BoolOp .And (a :: b :: r) pos) (tT (kx X) wx P (.and x y)) := PW.imp (pw_and s1.pt (s2.pw ⟨_, _, _, rfl⟩)) fun σ H Q q => and_T q
  exact ⟨pe, pw.pt, fun _ => pw, PE.imp pe fun σ H Q q => tA_tE (fun i z => by cases z) q⟩
theorem s_or (iE : AllE sx P N cls n) (g : Good sx P N sc wx cls X) {a b : Expr} {r : List Expr} {pos : Pos} {ie : E} (h : ((cE sx N n sc a).bind fun x => (cE sx N n sc (.BoolOp .Or (b :: r) pos)).map fun y => E.or x y) = some ie) : Snd X wx P (.BoolOp .Or (a :: b :: r) pos) ie := by
  obtain ⟨x, h1, h⟩ := bind_of h
  obtain ⟨y, h2, rfl⟩ := map_of h
  have s1 := iE sc wx X g a x h1
  have s2 := iE sc wx X g _ y h2
  have pe : PE X (.BoolOp .Or (a :: b :: r) pos) (tE (kx X) wx P (.or x y)) := PE.imp (pe_or s1.pe (PE.imp s2.pe fun σ H Q q => tT_back q)) fun σ H Q q => or_D q
  have pw : PW X (.BoolOp .Or (a :: b :: r) pos) (tT (kx X) wx P (.or x y)) := PW.imp (pw_or s1.pt (s2.pw ⟨_, _, _, rfl⟩)) fun σ H Q q => or_T q
  exact ⟨pe, pw.pt, fun _ => pw, PE.imp pe fun σ H Q q => tA_tE (fun i z => by cases z) q⟩
theorem s_cmp (iE : AllE sx P N cls n) (g : Good sx P N sc wx cls X) {a b : Expr} {o : CmpOp} {pos : Pos} {ie : E} (h : (if isSet b then none else (cE sx N n sc a).bind fun x => (cE sx N n sc b).map fun y => E.cmp (cmpOf o) x y) = some ie) : Snd X wx P (.Compare a [o] [b] pos) ie := by
  rcases ite_of h with ⟨_, h⟩ | ⟨hs, h⟩
  · cases h
  obtain ⟨x, h1, h⟩ := bind_of h
  obtain ⟨y, h2, rfl⟩ := map_of h
  have hm : behindInMarks o b = false := set_not (Bool.eq_false_iff.mpr hs)
  have op : OpR X (compareOp o) (rCW X (cmpOf o)) := by
    have := op_cmpW (X := X) g.hu (cmpOf o)
    rw [cmO_of] at this
    exact this
  have fin : ∀ {σ : St} {H : Hp} {Q : VK}, tE (kx X) wx P (.cmp (cmpOf o) x y) σ H Q → tOp (rCW X (cmpOf o)) (tA (kx X) wx P x) (tA (kx X) wx P y) σ H Q := fun q => cmp_W q
  have s1 := (iE sc wx X g a x h1).pa
  have s2 := (iE sc wx X g b y h2).pa
  have pe : PE X (.Compare a [o] [b] pos) (tE (kx X) wx P (.cmp (cmpOf o) x y)) := PE.imp (pe_cmpR op s1 s2 hm) fun σ H Q q => fin q
  exact ⟨pe, PT.imp (pt_cmpR op s1 s2 hm) fun σ H Q q => fin (tT_tE q), fun ⟨_, _, _, z⟩ => (by cases z), PE.imp pe fun σ H Q q => tA_tE (fun i z => by cases z) q⟩
theorem s_chain (iE : AllE sx P N cls n) (g : Good sx P N sc wx cls X) {a b c : Expr} {o p : CmpOp} {pos : Pos} {ie : E} (h : (if (isSet b || isSet c) = true then none else (cE sx N n sc a).bind fun x => (cE sx N n sc b).bind fun y => (cE sx N n sc c).map fun z => E.chain (cmpOf o) (cmpOf p) x y z) = some ie) : Snd X wx P (.Compare a [o, p] [b, c] pos) ie := by
  rcases ite_of h with ⟨_, h⟩ | ⟨hs, h⟩
  · cases h
  obtain ⟨x, h1, h⟩ := bind_of h
  obtain ⟨y, h2, h⟩ := bind_of h
  obtain ⟨z, h3, rfl⟩ := map_of h
  have hs' := Bool.or_eq_false_iff.mp (Bool.eq_false_iff.mpr hs)
  have hm : lastMarks [o, p] [b, c] = false := set_not hs'.2
  have op : ∀ o : CmpOp, OpR X (compareOp o) (rD2 X.K (cmpD (cmpOf o))) := fun o => by
    have := op_cmpD (X := X) g.hu (cmpOf o)
    rw [cmO_of] at this
    exact this
  have s1 := (iE sc wx X g a x h1).pa
  have s2 := (iE sc wx X g b y h2).pa
  have s3 := (iE sc wx X g c z h3).pa
  have pe : PE X (.Compare a [o, p] [b, c] pos) (tE (kx X) wx P (.chain (cmpOf o) (cmpOf p) x y z)) := PE.imp (pe_chain (op o) (op p) s1 s2 s3 hm) fun σ H Q q => chain_D q
  exact ⟨pe, PT.imp (pt_chain (op o) (op p) s1 s2 s3 hm) fun σ H Q q => chain_D (tT_tE q), fun ⟨_, _, _, z⟩ => (by cases z), PE.imp pe fun σ H Q q => tA_tE (fun i z => by cases z) q⟩
theorem s_ife (iE : AllE sx P N cls n) (g : Good sx P N sc wx cls X) {t a b : Expr} {pos : Pos} {ie : E} (h : ((cE sx N n sc t).bind fun x => (cE sx N n sc a).bind fun y => (cE sx N n sc b).map fun z => E.ife x y z) = some ie) : Snd X wx P (.IfExp t a b pos) ie := by
  obtain ⟨x, h1, h⟩ := bind_of h
  obtain ⟨y, h2, h⟩ := bind_of h
  obtain ⟨z, h3, rfl⟩ := map_of h
  have s1 := iE sc wx X g t x h1
  have s2 := iE sc wx X g a y h2
  have s3 := iE sc wx X g b z h3
  have pe : PE X (.IfExp t a b pos) (tE (kx X) wx P (.ife x y z)) := PE.imp (pe_ifExp s1.pt s2.pe s3.pe) fun σ H Q q => ife_D q
  exact ⟨pe, PT.imp (pt_ifE s1.pt s2.pt s3.pt) fun σ H Q q => ife_T q, fun ⟨_, _, _, z⟩ => (by cases z), PE.imp pe fun σ H Q q => tA_tE (fun i z => by cases z) q⟩
theorem bound_po (iE : AllE sx P N cls n) (g : Good sx P N sc wx cls X) {o : Option Expr} {ie : E} (h : cBound (cE sx N n sc) o = some ie) : PO X o (tO (kx X) wx P ie) := by
  cases o with
  | none => cases h; exact po_no
  | some e =>
    have h : (match cE sx N n sc e with
      | some (.c .none) => none
      | o => o) = some ie := h
    have hn : ie ≠ .c .none := by
      intro z
      subst z
      split at h
      · cases h
      · rename_i hh; exact hh h
    have he : cE sx N n sc e = some ie := by
      split at h
      · cases h
      · exact h
    exact po_yes hn (iE sc wx X g e ie he).pe
theorem s_sl (iE : AllE sx P N cls n) (g : Good sx P N sc wx cls X) {a : Expr} {lo hi : Option Expr} {p pos : Pos} {ie : E} (h : ((cE sx N n sc a).bind fun x => (cBound (cE sx N n sc) lo).bind fun l => (cBound (cE sx N n sc) hi).map fun h => E.sl x l h) = some ie) : Snd X wx P (.Subscript a (.Slice lo hi none p) pos) ie := by
  obtain ⟨x, h1, h⟩ := bind_of h
  obtain ⟨l, h2, h⟩ := bind_of h
  obtain ⟨u, h3, rfl⟩ := map_of h
  exact snd_val (PE.imp (pe_slice sl_D (iE sc wx X g a x h1).pa (bound_po iE g h2) (bound_po iE g h3)) fun σ H Q q => sl_DD q) (fun i z => by cases z) (fun _ => rfl) (fun _ _ _ z => by cases z)
theorem dps_rev {K : PySem.W.Frag} {F : Hp} : ∀ {vs : List V} {ds : List PyData}, DpAll K F vs ds → DpAll K F vs.reverse ds.reverse
  | _, _, .nil => .nil
  | _, _, .cons a b => by
    rw [List.reverse_cons, List.reverse_cons]
    exact dps_app (dps_rev b) (.cons a .nil)
theorem rev_DD {X : Cx} {wx : Wx} {P : Pg} {ia : E} {σ : St} {H : Hp} {Q : VK} (q : tE (kx X) wx P (.rev ia) σ H Q) : tRevL X.K (tA (kx X) wx P ia) σ H Q := by
  obtain ⟨Z, β, F, ρ, S, rl, q⟩ := q
  simp only [ev] at q
  refine ⟨Z, β, F, ρ, S, rl, (Pw.bind (f := fun w S => Res.lift S (((vw S w).bind revD).map W.d)) q).mono fun w β1 F1 S1 H1 u1 rl1 ⟨_, _, h1⟩ x rx => ?_⟩
  obtain ⟨r, er, k⟩ := Pw.lift h1 rl1
  obtain ⟨d, e1, e2⟩ := Option.bind_eq_some_iff.mp er
  have ra := repA_ra rx rl1 e1
  cases d with
  | list ds =>
    have e2 : some (PyData.list ds.reverse) = some r := e2
    cases e2
    obtain ⟨a, vs, rfl, hs, dp⟩ := ra
    refine ⟨a, vs, rfl, hs, fun p hp => ?_⟩
    have g : Gv X.K F1 H1 (.list ds.reverse) Q := fun v F' H' n dp => k F' H' n v dp
    exact g.lst rl1.fh (dps_rev dp) p hp
  | _ => exact nomatch e2
theorem s_ix (iE : AllE sx P N cls n) (g : Good sx P N sc wx cls X) {a b : Expr} {pos : Pos} {ie : E} (h : (if isSlice b then (if isRev b then (cE sx N n sc a).map fun x => E.rev x else none) else (cE sx N n sc a).bind fun x => (cE sx N n sc b).map fun y => E.ix x y) = some ie) : Snd X wx P (.Subscript a b pos) ie := by
  rcases ite_of h with ⟨_, h⟩ | ⟨hs, h⟩
  · rcases ite_of h with ⟨hr, h⟩ | ⟨_, h⟩
    · obtain ⟨x, h1, rfl⟩ := map_of h
      obtain ⟨k, p1, p2, p3, rfl⟩ := isRev_ok hr
      exact snd_val (PE.imp (pe_revL (iE sc wx X g a x h1).pa) fun σ H Q q => rev_DD q) (fun i z => by cases z) (fun _ => rfl) (fun _ _ _ z => by cases z)
    · cases h
  obtain ⟨x, h1, h⟩ := bind_of h
  obtain ⟨y, h2, rfl⟩ := map_of h
  exact snd_val (PE.imp (pe_ix (ix_E g.hu) (iE sc wx X g a x h1).pa (iE sc wx X g b y h2).pe (plain_ix (Bool.eq_false_iff.mpr hs))) fun σ H Q q => ix_DD q) (fun i z => by cases z) (fun _ => rfl) (fun _ _ _ z => by cases z)
theorem s_bm (iE : AllE sx P N cls n) (g : Good sx P N sc wx cls X) {o a : Expr} {m : Str} {ap p : Pos} {ie : E} (hs : isSup o = false) (hl : (ap.endLine == p.line) = true) (h : ((bmOf m).bind fun k => (cE sx N n sc o).bind fun x => (cE sx N n sc a).map fun y => E.bm k x y) = some ie) : Snd X wx P (.Call (.Attribute o m ap) [a] [] p) ie := by
  obtain ⟨k, h0, h⟩ := bind_of h
  obtain ⟨x, h1, h⟩ := bind_of h
  obtain ⟨y, h2, rfl⟩ := map_of h
  have s1 := (iE sc wx X g o x h1).pa
  have s2 := (iE sc wx X g a y h2).pa
  have st := star_not (es := []) (env := X.env) (cE_star h2)
  have pa : PA X [a] (tCons (tA (kx X) wx P y) tNil) := pa_cons s2 pa_nil st
  refine snd_val ?_ (fun i z => by cases z) (fun _ => rfl) (fun _ _ _ z => by cases z)
  rcases bmOf_ok h0 with ⟨rfl, rfl⟩ | ⟨rfl, rfl⟩ | ⟨rfl, rfl⟩ | ⟨rfl, rfl⟩ | ⟨rfl, rfl⟩
  · exact PE.imp (pe_bm PySem.F.plainAttrs_list PySem.F.slot_list_index PySem.F.type_list_index (mt_indexDD g.hu) s1 pa (sup_not hs) (by rw [st]; rfl) hl st rfl) fun σ H Q q => bm_DD q
  · exact PE.imp (pe_bm PySem.F.plainAttrs_str PySem.F.slot_str_startswith PySem.F.type_str_startswith mt_startsD s1 pa (sup_not hs) (by rw [st]; rfl) hl st rfl) fun σ H Q q => bm_DD q
  · exact PE.imp (pe_bm PySem.F.plainAttrs_list PySem.F.slot_list_count PySem.F.type_list_count (mt_countDD g.hu) s1 pa (sup_not hs) (by rw [st]; rfl) hl st rfl) fun σ H Q q => bm_DD q
  · exact PE.imp (pe_bm PySem.F.plainAttrs_str PySem.F.slot_str_join PySem.F.type_str_join mt_joinD s1 pa (sup_not hs) (by rw [st]; rfl) hl st rfl) fun σ H Q q => bm_DD q
  · exact PE.imp (pe_bm PySem.F.plainAttrs_str PySem.F.slot_str_split PySem.F.type_str_split mt_splitD s1 pa (sup_not hs) (by rw [st]; rfl) hl st rfl) fun σ H Q q => bm_DD q
theorem s_pop (iE : AllE sx P N cls n) (g : Good sx P N sc wx cls X) {o : Expr} {ap p : Pos} {ie : E} (hs : isSup o = false) (hl : (ap.endLine == p.line) = true) (h : ((cE sx N n sc o).map fun x => E.pop x) = some ie) : Snd X wx P (.Call (.Attribute o "pop" ap) [] [] p) ie := by
  obtain ⟨x, h1, rfl⟩ := map_of h
  exact snd_val (PE.imp (pe_bm0 PySem.F.plainAttrs_list PySem.F.slot_list_pop PySem.F.type_list_pop mt_popL (iE sc wx X g o x h1).pe (sup_not hs) hl) fun σ H Q q => pop_D q) (fun i z => by cases z) (fun _ => rfl) (fun _ _ _ z => by cases z)
theorem s_fld (iE : AllE sx P N cls n) (g : Good sx P N sc wx cls X) {o : Expr} {f : Str} {pos : Pos} {ie : E} (h : (if isSup o = true then none else (sx.flds.lookup f).bind fun c => (cE sx N n sc o).map fun x => E.fld c x f) = some ie) : Snd X wx P (.Attribute o f pos) ie := by
  rcases ite_of h with ⟨_, h⟩ | ⟨hs, h⟩
  · cases h
  obtain ⟨c, h0, h⟩ := bind_of h
  obtain ⟨x, h1, rfl⟩ := map_of h
  obtain ⟨f1, f2⟩ := g.flds c f h0
  exact snd_val (PE.imp (pe_fld (iE sc wx X g o x h1).pe (sup_not (Bool.eq_false_iff.mpr hs))) fun σ H Q q => fld_D f1 f2 q) (fun i z => by cases z) (fun _ => rfl) (fun _ _ _ z => by cases z)
theorem all_back {pos : Pos} : ∀ {l : List (Bool × Sem Value)}, (∀ x ∈ l, x.1 = false) → (backTo pos l).all (fun x => !x.1) = true
  | [], _ => rfl
  | x :: r, h => by
    unfold backTo
    rw [List.map_cons, List.all_cons]
    have h1 := h x (List.mem_cons_self)
    have h2 := all_back (pos := pos) (l := r) fun y hy => h y (List.mem_cons_of_mem _ hy)
    obtain ⟨b, t⟩ := x
    have h1 : b = false := h1
    subst h1
    rw [Bool.and_eq_true]
    exact ⟨rfl, h2⟩
theorem s_mc (iE : AllE sx P N cls n) (ia : AllA sx P N cls n) (g : Good sx P N sc wx cls X) {o : Expr} {m : Str} {args : List Expr} {ap p : Pos} {c f : Nat} {ie : E} (hs : isSup o = false) (hl : (ap.endLine == p.line) = true) (hn : args.length < 20) (hk : sx.mts.lookup m = some (c, f)) (h : ((cE sx N n sc o).bind fun x => (cEs sx N n sc args).map fun es => E.mc c f m x es) = some ie) : Snd X wx P (.Call (.Attribute o m ap) args [] p) ie := by
  obtain ⟨x, h1, h⟩ := bind_of h
  obtain ⟨ies, h2, rfl⟩ := map_of h
  obtain ⟨kk, a, fd, ps, F, hr, hc, hm, hb⟩ := g.mts m c f hk
  obtain ⟨Wc, tk, hw⟩ := g.tk
  have s1 := (iE sc wx X g o x h1).pe
  have s2 := ia sc wx X g args ies h2
  refine snd_val ?_ (fun i z => by cases z) (fun _ => rfl) (fun _ _ _ z => by cases z)
  cases args with
  | nil =>
    refine PE.imp (pe_methW0 s1 hc hm F hr hb (fun σ => passAt tk σ) (sup_not hs) hl) fun σ H Q q => ?_
    have q := mc_D hw q
    cases n with
    | zero => unfold cEs at h2; cases h2
    | succ n =>
      unfold cEs at h2
      cases h2
      obtain ⟨Z, β, F, ρ, S, rl, q⟩ := q
      exact ⟨Z, β, F, ρ, S, rl, q.mono fun w β1 F1 S1 H1 u1 rl1 k v r => by
        obtain ⟨a, dx, fs, e1, e2, e3, e4⟩ := k v r
        exact ⟨a, dx, fs, e1, e2, e3, nil_D e4⟩⟩
  | cons e es =>
    obtain ⟨t1, t2⟩ := s2.hd e es rfl
    have hform : methodCallForm ((e :: es).length + ([] : List Keyword).length) (backTo p (starEach (e :: es) X.env)) (backToKw p (keywordEach [] X.env)) = true := by
      unfold methodCallForm
      rw [all_back s2.st]
      have : (e :: es).length + ([] : List Keyword).length + 0 < 30 := by simpa using Nat.lt_of_lt_of_le hn (by decide)
      exact Bool.and_eq_true_iff.mpr ⟨rfl, decide_eq_true this⟩
    exact PE.imp (pe_methW s1 hc hm F hr hb (fun σ => passAt tk σ) s2.pa (sup_not hs) hform hl t1 (any_back t2)) fun σ H Q q => mc_D hw q
theorem s_get1 (iE : AllE sx P N cls n) (g : Good sx P N sc wx cls X) {o a : Expr} {ap p : Pos} {ie : E} (hs : isSup o = false) (hl : (ap.endLine == p.line) = true) (h : ((cE sx N n sc o).bind fun x => (cE sx N n sc a).map fun y => E.get1 x y) = some ie) : Snd X wx P (.Call (.Attribute o "get" ap) [a] [] p) ie := by
  obtain ⟨x, h1, h⟩ := bind_of h
  obtain ⟨y, h2, rfl⟩ := map_of h
  have st := star_not (es := []) (env := X.env) (cE_star h2)
  have pa : PA X [a] (tCons (tE (kx X) wx P y) tNil) := pa_cons (iE sc wx X g a y h2).pe pa_nil st
  exact snd_val (PE.imp (pe_dm PySem.F.slot_dict_get PySem.F.type_dict_get (mt_get1 (by have := g.hu; omega)) (iE sc wx X g o x h1).pe pa (sup_not hs) (by rw [st]; rfl) hl st rfl) fun σ H Q q => get1_D q) (fun i z => by cases z) (fun _ => rfl) (fun _ _ _ z => by cases z)
theorem s_dm2 (iE : AllE sx P N cls n) (g : Good sx P N sc wx cls X) {o a b : Expr} {m : Str} {ap p : Pos} {ie : E} (hs : isSup o = false) (hl : (ap.endLine == p.line) = true) (h : (if m = "setdefault" then (cE sx N n sc o).bind fun x => (cE sx N n sc a).bind fun y => (cE sx N n sc b).map fun z => E.setd x y z else if m = "get" then (cE sx N n sc o).bind fun x => (cE sx N n sc a).bind fun y => (cE sx N n sc b).map fun z => E.get2 x y z else none) = some ie) : Snd X wx P (.Call (.Attribute o m ap) [a, b] [] p) ie := by
  rcases ite_of h with ⟨hm, hh⟩ | ⟨_, h⟩
  · subst hm
    obtain ⟨x, h1, hh⟩ := bind_of hh
    obtain ⟨y, h2, hh⟩ := bind_of hh
    obtain ⟨z, h3, rfl⟩ := map_of hh
    have st2 := star_not (es := []) (env := X.env) (cE_star h3)
    have st := star_not (es := [b]) (env := X.env) (cE_star h2)
    have pa : PA X [a, b] (tCons (tE (kx X) wx P y) (tCons (tE (kx X) wx P z) tNil)) := pa_cons (iE sc wx X g a y h2).pe (pa_cons (iE sc wx X g b z h3).pe pa_nil st2) st
    exact snd_val (PE.imp (pe_dm PySem.F.slot_dict_setdefault PySem.F.type_dict_setdefault (mt_setd (by have := g.hu; omega)) (iE sc wx X g o x h1).pe pa (sup_not hs) (by rw [st, st2]; rfl) hl st (by rw [st2]; rfl)) fun σ H Q q => setd_D q) (fun i z => by cases z) (fun _ => rfl) (fun _ _ _ z => by cases z)
  rcases ite_of h with ⟨hm, hh⟩ | ⟨_, h⟩
  · subst hm
    obtain ⟨x, h1, hh⟩ := bind_of hh
    obtain ⟨y, h2, hh⟩ := bind_of hh
    obtain ⟨z, h3, rfl⟩ := map_of hh
    have st2 := star_not (es := []) (env := X.env) (cE_star h3)
    have st := star_not (es := [b]) (env := X.env) (cE_star h2)
    have pa : PA X [a, b] (tCons (tE (kx X) wx P y) (tCons (tE (kx X) wx P z) tNil)) := pa_cons (iE sc wx X g a y h2).pe (pa_cons (iE sc wx X g b z h3).pe pa_nil st2) st
    exact snd_val (PE.imp (pe_dm PySem.F.slot_dict_get PySem.F.type_dict_get (mt_get2 (by have := g.hu; omega)) (iE sc wx X g o x h1).pe pa (sup_not hs) (by rw [st, st2]; rfl) hl st (by rw [st2]; rfl)) fun σ H Q q => get2_D q) (fun i z => by cases z) (fun _ => rfl) (fun _ _ _ z => by cases z)
  cases h
theorem mapM_cons_some {α β : Type} {f : α → Option β} {a : α} {l : List α} {r : List β} (h : (a :: l).mapM f = some r) : ∃ b bs, f a = some b ∧ l.mapM f = some bs ∧ r = b :: bs := by
  rw [List.mapM_cons] at h
  obtain ⟨b, h1, h⟩ := Option.bind_eq_some_iff.mp h
  obtain ⟨bs, h2, h⟩ := Option.bind_eq_some_iff.mp h
  exact ⟨b, bs, h1, h2, by cases h; rfl⟩
theorem s_pairs (iE : AllE sx P N cls n) (g : Good sx P N sc wx cls X) : ∀ (ps : List (Expr × Expr)) (l : List (E × E)), (ps.mapM fun p => (cE sx N n sc p.1).bind fun x => (cE sx N n sc p.2).map fun y => (x, y)) = some l → PA2 X ps (tEs (kx X) wx P (flatE l))
  | [], l, h => by
    have : l = [] := by simpa using h.symm
    subst this
    exact ⟨fun pos pins s σ H Q I q => pa2_nil.run pos pins s σ H Q I (nil_D q)⟩
  | p :: ps, l, h => by
    obtain ⟨b, bs, h1, h2, rfl⟩ := mapM_cons_some h
    obtain ⟨x, e1, h1⟩ := bind_of h1
    obtain ⟨y, e2, rfl⟩ := map_of h1
    have ih := s_pairs iE g ps bs h2
    refine ⟨fun pos pins s σ H Q I q => (pa2_cons (iE sc wx X g p.1 x e1).pe (iE sc wx X g p.2 y e2).pe ih).run pos pins s σ H Q I ?_⟩
    have q := cons_D q
    obtain ⟨Z, β, F, ρ, S, rl, q⟩ := q
    exact ⟨Z, β, F, ρ, S, rl, q.mono fun w β1 F1 S1 H1 u1 rl1 k v r => cons_D (k v r)⟩
theorem s_dict (iE : AllE sx P N cls n) (g : Good sx P N sc wx cls X) {ks : List (Option Expr)} {vs : List Expr} {pos : Pos} {ie : E} (h : ((dictP ks vs).bind fun ps => if Nat.ble ps.length 15 = true then (ps.mapM fun p => (cE sx N n sc p.1).bind fun x => (cE sx N n sc p.2).map fun y => (x, y)).map fun l => E.dnew (flatE l) else none) = some ie) : Snd X wx P (.Dict ks vs pos) ie := by
  obtain ⟨ps, h0, h⟩ := bind_of h
  rcases ite_of h with ⟨hl, h⟩ | ⟨_, h⟩
  case inr => cases h
  obtain ⟨l, h1, rfl⟩ := map_of h
  obtain ⟨e1, e2⟩ := dictP_ok h0
  subst e1 e2
  refine snd_val ?_ (fun i z => by cases z) (fun _ => rfl) (fun _ _ _ z => by cases z)
  have pp := s_pairs iE g ps l h1
  cases ps with
  | nil =>
    have : l = [] := by simpa using h1.symm
    subst this
    refine PE.imp pe_dict0 fun σ H Q q => ?_
    have q := dnew_D q
    intro d hd hsy
    exact nil_D (q d hd hsy)
  | cons p r => exact PE.imp (pe_dict (by have := g.hu; omega) (by simp) (Nat.le_of_ble_eq_true hl) pp) fun σ H Q q => dnew_D q
end
end
end FO

set_option Elab.async false
set_option linter.all false
set_option maxHeartbeats 4000000
set_option maxRecDepth 10000
namespace FO
open PySem PySem.Spec L2
section
variable {sx : Sx} {P : Pg} {N : List Str} {cls : Nat → Value}
section
variable {sc : Scope} {wx : Wx} {X : Cx} {n : Nat}
theorem s_call (ia : AllA sx P N cls n) (g : Good sx P N sc wx cls X) {f : Str} {args : List Expr} {p pos : Pos} {k : Nat} {ies : Es} (hd : ¬ (f = "__debug__" ∨ f = "__name__")) (hgl : glB (sc.names.lookup f) = true) (hk : sx.fns.lookup f = some k) (h : cEs sx N n sc args = some ies) :
    PE X (.Call (.Name f p) args [] pos) (tE (kx X) wx P (.call k ies)) := by
  obtain ⟨kk, a, fd, ps, F, hr, hm, hkeep, hb⟩ := g.fns k f hk
  obtain ⟨Wc, tk, hw⟩ := g.tk
  have hdb : (f == ("__debug__" : Str)) = false := debug_ne fun z => hd (.inl z)
  have s := ia sc wx X g args ies h
  cases args with
  | nil =>
    refine PE.imp (pe_callS0 F hr (g.gl f hgl) hm hkeep hb (fun σ => passAt tk σ) hdb) fun σ H Q q => ?_
    have q := call_D hw q
    cases n with
    | zero => unfold cEs at h; cases h
    | succ n =>
      unfold cEs at h
      cases h
      exact nil_D q
  | cons e es =>
    obtain ⟨h1, h2⟩ := s.hd e es rfl
    exact PE.imp (pe_callS F hr (g.gl f hgl) hm hkeep hb (fun σ => passAt tk σ) s.pa hdb h1 (any_back h2)) fun σ H Q q => call_D hw q
theorem s_mk (ia : AllA sx P N cls n) (g : Good sx P N sc wx cls X) {f : Str} {args : List Expr} {p pos : Pos} {c k : Nat} {ies : Es} (hd : ¬ (f = "__debug__" ∨ f = "__name__")) (hgl : glB (sc.names.lookup f) = true) (hk : sx.mks.lookup f = some (c, k)) (hne : args.isEmpty = false) (h : cEs sx N n sc args = some ies) :
    PE X (.Call (.Name f p) args [] pos) (tE (kx X) wx P (.mk c k ies)) := by
  obtain ⟨kk, a, fd, ps, F, hr, hm, M, hb⟩ := g.mks f c k hk
  obtain ⟨Wc, tk, hw⟩ := g.tk
  have hdb : (f == ("__debug__" : Str)) = false := debug_ne fun z => hd (.inl z)
  have s := ia sc wx X g args ies h
  cases args with
  | nil => cases hne
  | cons e es =>
    obtain ⟨h1, h2⟩ := s.hd e es rfl
    exact PE.imp (pe_makeW M F hr (g.gl f hgl) hm hb (fun σ => passAt tk σ) s.pa hdb h1 (any_back h2)) fun σ H Q q => mk_D hw q
theorem s_lenI (iE : AllE sx P N cls n) (g : Good sx P N sc wx cls X) {a : Expr} {y : Str} {p pos : Pos} {c k : Nat} {x : E} (hgl : glB (sc.names.lookup ("len" : Str)) = true) (hk : sx.lens.lookup y = some (c, k)) (h : cE sx N n sc a = some x) :
    PE X (.Call (.Name "len" p) [a] [] pos) (tE (kx X) wx P (.lenI c k x)) := by
  obtain ⟨kk, f, fd, ps, F, hr, hm, hb⟩ := g.lens y c k hk
  have st := star_not (es := []) (env := X.env) (cE_star h)
  have pa : PA X [a] (tCons (tE (kx X) wx P x) tNil) := pa_cons (iE sc wx X g a x h).pe pa_nil st
  exact PE.imp (pe_callB (call_lenI hm.at_ hm.fn F hr hb) (g.gl _ hgl) (g.free _ (by decide +kernel)) (by decide +kernel) pa (by decide) (by decide) st rfl) fun σ H Q q => lenI_D q
theorem s_isi (iE : AllE sx P N cls n) (g : Good sx P N sc wx cls X) {a : Expr} {t : Str} {p q pos : Pos} {ty : Ty} {x : E} (hgl : glB (sc.names.lookup ("isinstance" : Str)) = true) (hgt : glB (sc.names.lookup t) = true) (ht : tyOf t = some ty) (h : cE sx N n sc a = some x) :
    PE X (.Call (.Name "isinstance" p) [a, .Name t q] [] pos) (tE (kx X) wx P (.isi x ty)) := by
  obtain ⟨t1, t2, t3, t4⟩ := tyOf_ok ht
  have pt : PE X (.Name t q) (tC (.ty (tyN ty))) := pe_bltn (g.gl t hgt) (g.free t t1) t2 rfl t3 t4
  have s1 := (iE sc wx X g a x h).pa
  have st := star_not (es := [.Name t q]) (env := X.env) (cE_star h)
  have pa : PA X [a, .Name t q] (tCons (tA (kx X) wx P x) (tCons (tC (.ty (tyN ty))) tNil)) := pa_cons s1 (pa_cons pt pa_nil) st
  exact PE.imp (pe_callB (call_isiD ty) (g.gl _ hgl) (g.free _ (by decide +kernel)) (by decide +kernel) pa (by decide) (by decide) st rfl) fun σ H Q q => isi_DD q
theorem s_isA (iE : AllE sx P N cls n) (g : Good sx P N sc wx cls X) {a : Expr} {t : Str} {p q pos : Pos} {ie : E} (hgl : glB (sc.names.lookup ("isinstance" : Str)) = true) (hgt : glB (sc.names.lookup t) = true) (h : (match tyOf t with
              | some t => (cE sx N n sc a).map fun x => E.isi x t
              | none => if sx.full = true then (if t = "ValueError" then (cE sx N n sc a).map fun x => E.isv x else if t = "__debug__" then none else (slotOf sx.exs t).bind fun c => (cE sx N n sc a).map fun x => E.isx x c) else none) = some ie) :
    Snd X wx P (.Call (.Name "isinstance" p) [a, .Name t q] [] pos) ie := by
  split at h
  · rename_i ty h0
    obtain ⟨x, h1, rfl⟩ := map_of h
    exact snd_val (s_isi iE g hgl hgt h0 h1) (fun i z => by cases z) (fun _ => rfl) (fun _ _ _ z => by cases z)
  · rcases ite_of h with ⟨hf, h⟩ | ⟨_, h⟩
    case inr => cases h
    rcases ite_of h with ⟨rfl, h⟩ | ⟨_, h⟩
    · obtain ⟨x, h1, rfl⟩ := map_of h
      have pt : PE X (.Name "ValueError" q) (tC (.ty "ValueError")) := pe_bltn (g.gl _ hgt) (g.free _ (by decide +kernel)) (by decide +kernel) rfl (by decide +kernel) (by decide +kernel)
      have st := star_not (es := [.Name "ValueError" q]) (env := X.env) (cE_star h1)
      have pa : PA X [a, .Name "ValueError" q] (tCons (tE (kx X) wx P x) (tCons (tC (.ty "ValueError")) tNil)) := pa_cons (iE sc wx X g a x h1).pe (pa_cons pt pa_nil) st
      refine snd_val (PE.imp (pe_callB call_isX (g.gl _ hgl) (g.free _ (by decide +kernel)) (by decide +kernel) pa (by decide) (by decide) st rfl) fun σ H Q q => isv_D (fun k hk => ⟨(g.exi hf k hk).1, (g.exi hf k hk).2.1⟩) q) (fun i z => by cases z) (fun _ => rfl) (fun _ _ _ z => by cases z)
    rcases ite_of h with ⟨_, h⟩ | ⟨hdb, h⟩
    · cases h
    obtain ⟨c, h0, h⟩ := bind_of h
    obtain ⟨x, h1, rfl⟩ := map_of h
    have hsl := slotOf_ok h0
    have hne : (t == ("" : Str)) = false := by
      have e : sx.exs = exN := eq_of_beq hf
      rw [e] at hsl
      have hm := List.mem_of_getElem? hsl
      have : ∀ t ∈ exN, (t == ("" : Str)) = false := by decide +kernel
      exact this t hm
    obtain ⟨m1, m2⟩ := g.exg c t hsl hne
    rw [m2] at m1
    have pt : PE X (.Name t q) (tC (.ref (exA X.K c))) := pe_glob (g.gl t hgt) m1 rfl (debug_ne hdb)
    have st := star_not (es := [.Name t q]) (env := X.env) (cE_star h1)
    have pa : PA X [a, .Name t q] (tCons (tE (kx X) wx P x) (tCons (tC (.ref (exA X.K c))) tNil)) := pa_cons (iE sc wx X g a x h1).pe (pa_cons pt pa_nil) st
    refine snd_val (PE.imp (pe_callB call_isX (g.gl _ hgl) (g.free _ (by decide +kernel)) (by decide +kernel) pa (by decide) (by decide) st rfl) fun σ H Q q => isx_D (fun k hk => ⟨(g.exi hf k hk).1, (g.exi hf k hk).2.2⟩) q) (fun i z => by cases z) (fun _ => rfl) (fun _ _ _ z => by cases z)
theorem s_max2 (iE : AllE sx P N cls n) (g : Good sx P N sc wx cls X) {a b : Expr} {p pos : Pos} {x y : E} (hgl : glB (sc.names.lookup ("max" : Str)) = true) (h1 : cE sx N n sc a = some x) (h2 : cE sx N n sc b = some y) :
    PE X (.Call (.Name "max" p) [a, b] [] pos) (tE (kx X) wx P (.max2 x y)) := by
  have st := star_not (es := [b]) (env := X.env) (cE_star h1)
  have st2 := star_not (es := []) (env := X.env) (cE_star h2)
  have pa : PA X [a, b] (tCons (tE (kx X) wx P x) (tCons (tE (kx X) wx P y) tNil)) := pa_cons (iE sc wx X g a x h1).pe (pa_cons (iE sc wx X g b y h2).pe pa_nil st2) st
  exact PE.imp (pe_callB (call_max2 g.calm) (g.gl _ hgl) (g.free _ (by decide +kernel)) (by decide +kernel) pa (by decide) (by decide) st (by rw [st2]; rfl)) fun σ H Q q => max2_D q
theorem s_ls (iE : AllE sx P N cls n) (g : Good sx P N sc wx cls X) {a : Expr} {p p2 q pos : Pos} {x : E} (hgl : glB (sc.names.lookup ("len" : Str)) = true) (hgs : glB (sc.names.lookup ("set" : Str)) = true) (h : cE sx N n sc a = some x) :
    PE X (.Call (.Name "len" p) [.Call (.Name "set" p2) [a] [] q] [] pos) (tE (kx X) wx P (.bi .lenset x)) := by
  have s1 := (iE sc wx X g a x h).pa
  refine PE.imp (pe_lsD g.calm (g.gl _ hgl) (g.free _ (by decide +kernel)) (g.gl _ hgs) (g.free _ (by decide +kernel)) s1 (star_not (cE_star h))) fun σ H Q q => ?_
  obtain ⟨Z, β, F, ρ, S, rl, q⟩ := q
  simp only [ev] at q
  refine ⟨Z, β, F, ρ, S, rl, (Pw.bind (f := fun w S => Res.lift S (((vw S w).bind (biD .lenset)).map W.d)) q).mono fun w β1 F1 S1 H1 u1 rl1 ⟨_, _, h1⟩ x rx => ?_⟩
  obtain ⟨r, er, k⟩ := Pw.lift h1 rl1
  obtain ⟨d, e1, e2⟩ := Option.bind_eq_some_iff.mp er
  exact ⟨F1, d, r, rl1.fh, repA_ra rx rl1 e1, e2, fun v F' H' n dp => k F' H' n v dp⟩
/-- what a comprehension's rule asks -/
structure CompP (X : Cx) (wx : Wx) (P : Pg) (own : List (Str × Nat)) (elt tg iter : Expr) (ifs : List Expr) (scope : Scope) (t : Tg) (it : FO.It) (x y : E) : Prop where
  hi : PI X tg iter (iD (kx X) wx P it)
  ok : BlkOk X.N X.env.scope scope own
  hg : ∀ (s : Shared) (H : Hp) (C : Addr) (cl : List (Str × Addr)) (fp : List Addr), PG (X.blk s H scope (compEnvC scope cl C X.env) fp) tg (gT X.K t)
  ht : ∀ (s : Shared) (H : Hp) (C : Addr) (cl : List (Str × Addr)) (fp : List Addr), PTs (X.blk s H scope (compEnvC scope cl C X.env) fp) ifs (tT (kx X) wF P x)
  he : ∀ (s : Shared) (H : Hp) (C : Addr) (cl : List (Str × Addr)) (fp : List Addr), PE (X.blk s H scope (compEnvC scope cl C X.env) fp) elt (tE (kx X) wF P y)
  hs : ∀ x, foldedSetIterable iter X.env x = pure x
  b3 : own.map (·.2) = tgOwn t
theorem comp_parts (iE : AllE sx P N cls n) (iI : AllI sx P N cls n) (g : Good sx P N sc wx cls X) {elt tg iter : Expr} {ifs : List Expr} {scope : Scope} {t : Tg} {it : FO.It} {x y : E}
    (ht : cTg N n tg = some t) (hi : cI sx N n sc iter = some it) (hb : (blkT N sc scope t && enumOk tg it) = true) (he : cE sx N n scope elt = some y) (hc : (ifs = [] ∧ x = .c (.bool true)) ∨ ∃ c, ifs = [c] ∧ cE sx N n scope c = some x) :
    CompP X wx P (ownOf N (tgOwn t)) elt tg iter ifs scope t it x y := by
  obtain ⟨hb1, hb2⟩ := Bool.and_eq_true_iff.mp hb
  unfold blkT at hb1
  simp only [Bool.and_eq_true, decide_eq_true_eq] at hb1
  obtain ⟨⟨b1, b2⟩, b3⟩ := hb1
  obtain ⟨pi, hset⟩ := iI sc wx X g tg iter it hi hb2
  refine ⟨pi, blkOk_of g b1, fun s H C cl fp => ?_, fun s H C cl fp => ?_, fun s H C cl fp => ?_, folded_not hset, b3⟩
  · refine snd_Tg (X := X.blk s H scope (compEnvC scope cl C X.env) fp) g.hN g.nd g.calm n tg t ht fun z hz => ?_
    obtain ⟨i, hi⟩ := own_names hz
    exact loc_blk (List.all_eq_true.mp b2 _ hi)
  · rcases hc with ⟨rfl, rfl⟩ | ⟨c, rfl, hc⟩
    · refine ⟨fun pins s1 σ H1 Q I q => pts_nil.run pins s1 σ H1 Q I ?_⟩
      obtain ⟨Z, β, F, ρ, S, rl, q⟩ := q
      simp only [ev] at q
      obtain ⟨b, e, q⟩ := Pw.here q rl
      cases e
      exact q
    · exact pts_one ((iE scope wF _ (g.blk s H scope cl C fp) c x hc).pt)
  · exact (iE scope wF _ (g.blk s H scope cl C fp) elt y he).pe
theorem s_comp (iE : AllE sx P N cls n) (iI : AllI sx P N cls n) (g : Good sx P N sc wx cls X) {elt tg iter : Expr} {ifs : List Expr} {scope : Scope} {pos : Pos} {t : Tg} {it : FO.It} {x y : E}
    (ht : cTg N n tg = some t) (hi : cI sx N n sc iter = some it) (hb : (blkT N sc scope t && enumOk tg it) = true) (he : cE sx N n scope elt = some y) (hc : (ifs = [] ∧ x = .c (.bool true)) ∨ ∃ c, ifs = [c] ∧ cE sx N n scope c = some x) :
    PE X (.ListComp elt [⟨tg, iter, ifs, 0⟩] scope pos) (tE (kx X) wx P (.comp t it x y)) := by
  have c := comp_parts iE iI g ht hi hb he hc
  refine PE.imp (pe_lc g.calm (by rw [g.hN]; exact g.nd) c.hi c.ok c.hg c.ht c.he c.hs) fun σ H Q q => ?_
  rw [c.b3]
  exact comp_D q
theorem s_compN (iE : AllE sx P N cls n) (iI : AllI sx P N cls n) (g : Good sx P N sc wx cls X) {elt tg iter : Expr} {ifs : List Expr} {scope : Scope} {pos : Pos} {t : Tg} {it : FO.It} {x y : E}
    (ht : cTg N n tg = some t) (hi : cI sx N n sc iter = some it) (hb : (blkT N sc scope t && enumOk tg it) = true) (he : cE sx N n scope elt = some y) (hc : (ifs = [] ∧ x = .c (.bool true)) ∨ ∃ c, ifs = [c] ∧ cE sx N n scope c = some x) :
    PE X (.ListComp elt [⟨tg, iter, ifs, 0⟩] scope pos) (tN (kx X) wx P (.comp t it x y)) := by
  have c := comp_parts iE iI g ht hi hb he hc
  refine PE.imp (pe_lc g.calm (by rw [g.hN]; exact g.nd) c.hi c.ok c.hg c.ht c.he c.hs) fun σ H Q q => ?_
  rw [c.b3]
  exact comp_N q
theorem all_A (iE : AllE sx P N cls n) (ia : AllA sx P N cls n) : AllA sx P N cls (n + 1) := by
  intro sc wx X g es ies h
  cases es with
  | nil =>
    unfold cEs at h
    cases h
    exact ⟨⟨fun pos pins s σ H Q I q => pa_nil.run pos pins s σ H Q I (nil_D q)⟩, (fun x hx => by cases hx), fun e r z => by cases z⟩
  | cons e es =>
    unfold cEs at h
    rcases ite_of h with ⟨_, h⟩ | ⟨hs, h⟩
    · cases h
    obtain ⟨x, h1, h⟩ := bind_of h
    obtain ⟨xs, h2, rfl⟩ := map_of h
    have s1 := iE sc wx X g e x h1
    have s2 := ia sc wx X g es xs h2
    have st := star_not (es := es) (env := X.env) (cE_star h1)
    refine ⟨PA.imp (pa_cons s1.pe s2.pa st) fun σ H Q q => cons_D q, fun z hz => ?_, fun e' r' z => ?_⟩
    · rw [st] at hz
      rcases List.mem_cons.mp hz with rfl | hz
      · rfl
      · exact s2.st z hz
    · cases z
      exact ⟨st, s2.st⟩
theorem i_e (iE : AllE sx P N cls n) (g : Good sx P N sc wx cls X) {tg e : Expr} {it : FO.It} (h : (cE sx N n sc e).map It.e = some it) : PI X tg e (iD (kx X) wx P it) := by
  obtain ⟨x, h1, rfl⟩ := map_of h
  exact PI.imp (pi_any (iE sc wx X g e x h1).pa) fun σ H R q => it_D q
theorem and_opt {a b : Bool} {α : Type} {o : Option α} {r : α} (h : (if (a && b) = true then o else none) = some r) : a = true ∧ b = true ∧ o = some r := by
  rcases ite_of h with ⟨hc, h⟩ | ⟨_, h⟩
  · obtain ⟨h1, h2⟩ := Bool.and_eq_true_iff.mp hc
    exact ⟨h1, h2, h⟩
  · cases h
theorem all_I (iE : AllE sx P N cls n) : AllI sx P N cls (n + 1) := by
  intro sc wx X g tg e it h hen
  unfold cI at h
  split at h
  · rename_i f p a q
    refine ⟨?_, rfl⟩
    rcases ite_of h with ⟨rfl, h⟩ | ⟨_, h⟩
    · obtain ⟨hg, hs, h⟩ := and_opt h
      obtain ⟨x, h1, rfl⟩ := map_of h
      have st := star_not (es := []) (env := X.env) (cE_star h1)
      exact PI.imp (pi_range1 (g.gl _ hg) (g.free _ (by decide +kernel)) (pa_cons (iE sc wx X g a x h1).pe pa_nil st) st) fun σ H R q => rng_D1 q
    rcases ite_of h with ⟨rfl, h⟩ | ⟨_, h⟩
    · obtain ⟨hg, hs, h⟩ := and_opt h
      cases hz : zipArgs a with
      | some bc =>
        obtain ⟨b, c⟩ := bc
        rw [hz] at h
        obtain ⟨p2, q2, rfl⟩ := zipArgs_of hz
        obtain ⟨hg2, hs2, h⟩ := and_opt (show (if (glB (sc.names.lookup ("zip" : Str)) && (!isStar b && !isStar c)) = true then (cE sx N n sc b).bind fun x => (cE sx N n sc c).map fun y => It.enz x y else none) = some it from h)
        obtain ⟨x, h1, h⟩ := bind_of h
        obtain ⟨y, h2, rfl⟩ := map_of h
        have st := star_not (es := [c]) (env := X.env) (cE_star h1)
        have st2 := star_not (es := []) (env := X.env) (cE_star h2)
        cases tg <;> first
          | exact PI.imp (pi_enz (g.gl _ hg) (g.free _ (by decide +kernel)) (g.gl _ hg2) (g.free _ (by decide +kernel)) (pa_cons (iE sc wx X g b x h1).pe (pa_cons (iE sc wx X g c y h2).pe pa_nil st2) st) (by rw [st, st2]; rfl) (by rw [st2]; rfl) st) fun σ H R q => enz_D q
          | (cases hen; done)
      | none =>
        rw [hz] at h
        have h : (cE sx N n sc a).map (fun x => It.enum x) = some it := h
        obtain ⟨x, h1, rfl⟩ := map_of h
        have st := star_not (es := []) (env := X.env) (cE_star h1)
        cases tg <;> first
          | exact PI.imp (pi_enumA (g.gl _ hg) (g.free _ (by decide +kernel)) (pa_cons (iE sc wx X g a x h1).pa pa_nil st) st) fun σ H R q => enum_D q
          | (cases hen; done)
    exact i_e iE g h
  · rename_i f p a b q
    refine ⟨?_, rfl⟩
    rcases ite_of h with ⟨rfl, h⟩ | ⟨_, h⟩
    · obtain ⟨hg, hs, h⟩ := and_opt h
      obtain ⟨x, h1, h⟩ := bind_of h
      obtain ⟨y, h2, rfl⟩ := map_of h
      have st := star_not (es := [b]) (env := X.env) (cE_star h1)
      have st2 := star_not (es := []) (env := X.env) (cE_star h2)
      exact PI.imp (pi_range2 (g.gl _ hg) (g.free _ (by decide +kernel)) (pa_cons (iE sc wx X g a x h1).pe (pa_cons (iE sc wx X g b y h2).pe pa_nil st2) st) (by rw [st, st2]; rfl) st2) fun σ H R q => rng_D2 q
    exact i_e iE g h
  · rcases ite_of h with ⟨_, h⟩ | ⟨hs, h⟩
    · cases h
    exact ⟨i_e iE g h, Bool.eq_false_iff.mpr hs⟩
theorem bi_S {g : Good sx P N sc wx cls X} (iE : AllE sx P N cls n) {f : Str} {a : Expr} {p pos : Pos} {ie : E} (hgl : glB (sc.names.lookup f) = true) (h : ((biOf f).bind fun b => (cE sx N n sc a).map fun x => E.bi b x) = some ie) : Snd X wx P (.Call (.Name f p) [a] [] pos) ie := by
  obtain ⟨b, h0, h⟩ := bind_of h
  obtain ⟨x, h1, rfl⟩ := map_of h
  exact snd_val (bi_PE g h0 hgl (cE_star h1) (iE sc wx X g a x h1).pa) (fun i z => by cases z) (fun _ => rfl) (fun _ _ _ z => by cases z)
theorem all_E (iE : AllE sx P N cls n) (ia : AllA sx P N cls n) (iI : AllI sx P N cls n) : AllE sx P N cls (n + 1) := by
  intro sc wx X g e ie h
  unfold cE at h
  split at h
  · exact s_const g h
  · exact s_name g h
  · exact s_tup ia g h
  · exact s_lst ia g h
  · exact s_bin iE g h
  · exact s_not iE g h
  · exact s_neg iE g h
  · exact s_one (iE sc wx X g _ _ h) (pw_and1 (iE sc wx X g _ _ h).pt)
  · exact s_one (iE sc wx X g _ _ h) (pw_or1 (iE sc wx X g _ _ h).pt)
  · exact s_and iE g h
  · exact s_or iE g h
  · exact s_cmp iE g h
  · exact s_chain iE g h
  · exact s_ife iE g h
  · exact s_sl iE g h
  · exact s_ix iE g h
  · exact s_fld iE g h
  · rename_i f p args pos
    rcases ite_of h with ⟨_, h⟩ | ⟨hd, h⟩
    · cases h
    rcases ite_of h with ⟨hgl, h⟩ | ⟨_, h⟩
    case inr => cases h
    split at h
    · rename_i k hk
      obtain ⟨ies, h1, rfl⟩ := map_of h
      exact snd_val (s_call ia g hd hgl hk h1) (fun i z => by cases z) (fun _ => rfl) (fun _ _ _ z => by cases z)
    split at h
    · rename_i q hk
      rcases ite_of h with ⟨_, h⟩ | ⟨hne, h⟩
      · cases h
      obtain ⟨ies, h1, rfl⟩ := map_of h
      exact snd_val (s_mk ia g hd hgl hk (Bool.eq_false_iff.mpr hne) h1) (fun i z => by cases z) (fun _ => rfl) (fun _ _ _ z => by cases z)
    · split at h
      · rcases ite_of h with ⟨⟨hf, hg2, hgs⟩, hh⟩ | ⟨_, h⟩
        · subst hf
          subst hg2
          obtain ⟨x, h1, rfl⟩ := map_of hh
          exact snd_val (s_ls iE g hgl hgs h1) (fun i z => by cases z) (fun _ => rfl) (fun _ _ _ z => by cases z)
        · exact bi_S (g := g) iE hgl h
      · split at h
        · rename_i q hq
          rcases ite_of h with ⟨hf, hh⟩ | ⟨_, h⟩
          · subst hf
            obtain ⟨x, h1, rfl⟩ := map_of hh
            exact snd_val (s_lenI iE g hgl hq h1) (fun i z => by cases z) (fun _ => rfl) (fun _ _ _ z => by cases z)
          · cases h
        · exact bi_S (g := g) iE hgl h
      · exact bi_S (g := g) iE hgl h
      · rcases ite_of h with ⟨⟨hf, hgt⟩, hh⟩ | ⟨_, h⟩
        · subst hf
          exact s_isA iE g hgl hgt hh
        · cases h
      · rcases ite_of h with ⟨hf, hh⟩ | ⟨_, h⟩
        · subst hf
          obtain ⟨x, h1, hh⟩ := bind_of hh
          obtain ⟨y, h2, rfl⟩ := map_of hh
          exact snd_val (s_max2 iE g hgl h1 h2) (fun i z => by cases z) (fun _ => rfl) (fun _ _ _ z => by cases z)
        · cases h
      · cases h
  · rename_i o m ap args p
    rcases ite_of h with ⟨_, h⟩ | ⟨hc, h⟩
    · cases h
    obtain ⟨hc1, hc2⟩ := Bool.or_eq_false_iff.mp (Bool.eq_false_iff.mpr hc)
    obtain ⟨hs, hl⟩ := Bool.or_eq_false_iff.mp hc1
    have hl : (ap.endLine == p.line) = true := by simpa using hl
    have hn : args.length < 20 := by simpa using hc2
    split at h
    · rename_i q hq
      exact s_mc iE ia g hs hl hn hq h
    · split at h
      · rcases ite_of h with ⟨hf, hh⟩ | ⟨_, h⟩
        · subst hf
          exact s_pop iE g hs hl hh
        · cases h
      · rcases ite_of h with ⟨hf, hh⟩ | ⟨_, h⟩
        · subst hf
          exact s_get1 iE g hs hl hh
        · exact s_bm iE g hs hl h
      · exact s_dm2 iE g hs hl h
      · cases h
  · exact s_dict iE g h
  · obtain ⟨t, h1, h⟩ := bind_of h
    obtain ⟨it, h2, h⟩ := bind_of h
    rcases ite_of h with ⟨hb, h⟩ | ⟨_, h⟩
    case inr => cases h
    obtain ⟨y, h3, rfl⟩ := map_of h
    exact snd_val (s_comp iE iI g h1 h2 hb h3 (.inl ⟨rfl, rfl⟩)) (fun i z => by cases z) (fun _ => rfl) (fun _ _ _ z => by cases z)
  · obtain ⟨t, h1, h⟩ := bind_of h
    obtain ⟨it, h2, h⟩ := bind_of h
    rcases ite_of h with ⟨hb, h⟩ | ⟨_, h⟩
    case inr => cases h
    obtain ⟨x, h4, h⟩ := bind_of h
    obtain ⟨y, h3, rfl⟩ := map_of h
    exact snd_val (s_comp iE iI g h1 h2 hb h3 (.inr ⟨_, rfl, h4⟩)) (fun i z => by cases z) (fun _ => rfl) (fun _ _ _ z => by cases z)
  · cases h
end
theorem snd_all : ∀ n : Nat, AllE sx P N cls n ∧ AllA sx P N cls n ∧ AllI sx P N cls n
  | 0 => ⟨fun _ _ _ _ e ie h => (by unfold cE at h; cases h), fun _ _ _ _ e ie h => (by unfold cEs at h; cases h), fun _ _ _ _ _ e ie h => (by unfold cI at h; cases h)⟩
  | n + 1 => let ⟨a, b, c⟩ := snd_all n; ⟨all_E a b c, all_A a b, all_I a⟩
end
end FO

set_option Elab.async false
set_option linter.all false
set_option maxHeartbeats 2000000
set_option maxRecDepth 10000
namespace FO
open PySem PySem.Spec L2
/-! ### list += list, where the second may be any list -/
theorem iadd_any (l b : Addr) (xs ys : Array Value) (n m : Nat) (sl : Array (Option Value)) (h0 : ¬(!xs.isEmpty && Builtin.List.listTooLong (xs.size + ys.size)) = true) (h1 : xs.size ≤ sizeLine) (h2 : xs.size + ys.size ≤ sizeLine + 1) :
    Meets (Builtin.«list.__iadd__» ⟨[.ref l, .ref b], []⟩) (fun _ R s => s.heap.get? l = some { cls := .type "list", dict := none, data := .seq xs n, slots := #[] } ∧
      s.heap.get? b = some { cls := .type "list", dict := none, data := .seq ys m, slots := sl } ∧ R (.ok (.ret (Value.ref l))) { s with heap := s.heap.update l (Obj.mapSeq fun x => x ++ ys), toks := s.toks }) :=
  .of_wp fun prog w A R s h => by
    obtain ⟨hp, g, d, tk, os⟩ := s
    obtain ⟨hl, hb, h⟩ := h
    have g1 := AutoSeq1.idx_int
    have g2 := AutoSeq1.sub_tuple_tuple
    have g3 := AutoSeq1.sub_list_list
    have g4 := AutoSeq1.sub_tuple_list
    have g5 := AutoSeq1.sub_list_tuple
    have hz : (xs ++ ys).size ≤ sizeLine + 1 := by rw [Array.size_append]; exact h2
    wp_walk using (wpAny_updateSeq hl rfl (hz := h1) (_hz' := hz)), AutoSeq1.wpAny_loadPart' hl, AutoSeq1.wpAny_loadPart' hb
    exact ⟨_, rfl, h⟩
def rExtS (K : PySem.W.Frag) : R2 := fun x y H Q => ∃ l b xs zs, x = .ref l ∧ y = .ref b ∧ H l = some (.lst xs) ∧ SqL K H b zs ∧ xs.length + zs.length ≤ sizeLine ∧ Q (.ref l) (upd H l (.lst (xs ++ zs)))
section
variable {X : Cx}
theorem iop_extS : OpR X (inplaceOp .Add) (rExtS X.K) := by
  intro pins s σ H x y v u Q I rx ry h
  obtain ⟨l, b, xs, zs, rfl, rfl, hH, hB, hz, q⟩ := h
  cases rx
  cases ry
  obtain ⟨z, its, n, r, hl, e⟩ := I.lstM hH
  obtain ⟨its2, r2, ⟨⟨cls2, dd2, data2, sl2⟩, n2, e2, hc2, hd02, hd2⟩, _⟩ := I.list hB
  simp only at hc2 hd2 hd02
  subst hc2 hd2 hd02
  have hl2 := r2.length
  have hsz : its.toArray.size + its2.toArray.size ≤ sizeLine := by rw [List.size_toArray, List.size_toArray]; omega
  have hlong : ¬ (!its.toArray.isEmpty && Builtin.List.listTooLong (its.toArray.size + its2.toArray.size)) = true := by
    rw [notLongL hsz, Bool.and_false]; exact Bool.false_ne_true
  refine iadd_road ⟨_, e, rfl⟩ ⟨_, e2, rfl⟩ (call_meets PySem.F.slot_list_iadd ⟨_, e, rfl⟩ PySem.F.entry_list_iadd (PySem.F.args_list_iadd_2 _ _)
    (iadd_any l b its.toArray its2.toArray n n2 sl2 hlong (by rw [List.size_toArray]; omega) (by omega)) ⟨e, e2, ?_⟩)
  exact ⟨.ref l, _, I.lset (its' := its ++ its2) (t' := s.toks) hH e (by simp) (r.append r2) (by rw [List.length_append]; omega), rfl, q⟩
end
/-! ### slots -/
section
variable {K : Kw} {Z : Bs} {β β' : List Addr} {F H F' H' : Hp} {ρ ρ' : Rho} {S S' : Sto} {σ σ' : St} {i : Nat} {v : V} {w : W}
/-- slots drawn from other slots -/
theorem Rl.remap (r : Rl K Z β F ρ S σ H) (f : Nat → Nat) (hl : σ'.length = ρ'.length) (hf : ∀ j s, ρ'[j]? = some s → s ≠ .un → ρ[f j]? = some s ∧ σ'[j]? = σ[f j]?) (hi : ∀ j k xs ys, j ≠ k → ρ'[j]? = some (.own xs) → ρ'[k]? = some (.own ys) → f j ≠ f k) : Rl K Z β F ρ' S σ' H := by
  refine ⟨hl, r.fh, r.up, r.st, fun j u h => ?_, fun j xs h => ?_, fun j k xs ys a hjk h1 h2 h3 h4 => ?_⟩
  · obtain ⟨h1, h2⟩ := hf j _ h (by simp)
    obtain ⟨v, e1, e2⟩ := r.val _ _ h1
    exact ⟨v, by rw [h2]; exact e1, e2⟩
  · obtain ⟨h1, h2⟩ := hf j _ h (by simp)
    rw [h2]
    exact r.own _ _ h1
  · obtain ⟨a1, a2⟩ := hf j _ h1 (by simp)
    obtain ⟨b1, b2⟩ := hf k _ h2 (by simp)
    rw [a2] at h3
    rw [b2] at h4
    exact r.dist _ _ xs ys a (hi j k xs ys hjk h1 h2) a1 b1 h3 h4
/-- a list that one slot holds is let go: it never changes again -/
theorem Rl.frz (r : Rl K Z β F ρ S σ H) (i : Nat) : ∃ F', Sub F F' ∧ Rl K Z β F' (frzAt ρ i) S σ H := by
  unfold frzAt
  cases q : ρ[i]? with
  | none => exact ⟨F, Sub.refl F, r⟩
  | some s =>
    cases s with
    | un => exact ⟨F, Sub.refl F, r⟩
    | val w => exact ⟨F, Sub.refl F, r⟩
    | own xs =>
      obtain ⟨a, vs, h1, h2, h3, h4, h5, h6⟩ := r.own i xs q
      have ff : Sub F (upd F a (.lst vs)) := Sub.new h3
      have hil : i < ρ.length := (List.getElem?_eq_some_iff.mp q).1
      refine ⟨upd F a (.lst vs), ff, by simp [r.len], fun b o e => ?_, ⟨r.up.bb, r.up.ff.trans ff, fun b o e n => ?_, r.up.hh, r.up.tr⟩, ⟨r.st.len, r.st.nd, fun n b c k1 k2 hd => ?_, fun n b c k1 k2 => (r.st.cell n b c k1 k2).mono ff (fun _ _ e => e) fun _ e => e⟩, fun j u h => ?_, fun j ys h => ?_, fun j k ys zs b hjk e1 e2 e3 e4 => ?_⟩
      · by_cases c : b = a
        · subst c; rw [upd_same] at e; cases e; exact h2
        · rw [upd_ne c] at e; exact r.fh b o e
      · have : b ≠ a := fun z => by rw [z, h5] at e; cases e
        rw [upd_ne this]; exact r.up.nf b o e n
      · have : b ≠ a := fun z => h4 (z ▸ List.mem_of_getElem? k1)
        rw [upd_ne this]; exact r.st.out n b c k1 k2 hd
      · by_cases c : i = j
        · subst c
          rw [List.getElem?_set_self hil] at h
          cases h
          exact ⟨.ref a, h1, Dp.lst (.inl (.inl upd_same)) (dps_sub ff h6)⟩
        · rw [List.getElem?_set_ne c] at h
          obtain ⟨v, k1, k2⟩ := r.val j u h
          refine ⟨v, k1, ?_⟩
          exact repW_mono ff (fun _ _ e => e) k2
      · by_cases c : i = j
        · subst c
          rw [List.getElem?_set_self hil] at h
          cases h
        · rw [List.getElem?_set_ne c] at h
          obtain ⟨b, us, k1, k2, k3, k4, k5, k6⟩ := r.own j ys h
          have hne : b ≠ a := fun z => by
            subst z
            exact r.dist i j xs ys b c q h h1 k1
          exact ⟨b, us, k1, k2, by rw [upd_ne hne]; exact k3, k4, k5, dps_sub ff k6⟩
      · have ne : ∀ {m : Nat} {ts : List PyData}, (ρ.set i (Sl.val (.d (.list xs))))[m]? = some (.own ts) → ρ[m]? = some (.own ts) := fun {m ts} h => by
          by_cases c : i = m
          · subst c; rw [List.getElem?_set_self hil] at h; cases h
          · rw [List.getElem?_set_ne c] at h; exact h
        exact r.dist j k ys zs b hjk (ne e1) (ne e2) e3 e4
theorem Rl.frzE (r : Rl K Z β F ρ S σ H) (e : E) : ∃ F', Sub F F' ∧ Rl K Z β F' (frzE ρ e) S σ H := by
  cases e <;> first | exact r.frz _ | exact ⟨F, Sub.refl F, r⟩
theorem Rl.frzI (r : Rl K Z β F ρ S σ H) (it : FO.It) : ∃ F', Sub F F' ∧ Rl K Z β F' (frzI ρ it) S σ H := by
  cases it with
  | e a => exact r.frzE a
  | enum a => exact r.frzE a
  | rng a b => exact ⟨F, Sub.refl F, r⟩
  | zip a b => exact ⟨F, Sub.refl F, r⟩
  | enz a b => exact ⟨F, Sub.refl F, r⟩
theorem noOwn_frz (ρ : Rho) (it : FO.It) : noOwn (frzI ρ it) it := by
  have key : ∀ (i : Nat) (xs : List PyData), (frzAt ρ i)[i]? ≠ some (.own xs) := fun i xs h => by
    unfold frzAt at h
    cases q : ρ[i]? with
    | none => rw [q] at h; dsimp only at h; rw [q] at h; cases h
    | some s =>
      rw [q] at h
      cases s with
      | un => dsimp only at h; rw [q] at h; cases h
      | val w => dsimp only at h; rw [q] at h; cases h
      | own ys =>
        dsimp only at h
        rw [List.getElem?_set_self (List.getElem?_eq_some_iff.mp q).1] at h
        cases h
  cases it with
  | e a => intro i xs ea; subst ea; exact key i xs
  | enum a => intro i xs ea; subst ea; exact key i xs
  | rng a b => trivial
  | zip a b => trivial
  | enz a b => trivial
/-- a new list for one more slot -/
theorem Rl.more (r : Rl K Z β F ρ S σ H) {p : Addr} {vs : List V} {xs : List PyData} (hp : H p = none) (hd : DpAll K F vs xs) : Rl K Z β F (ρ ++ [.own xs]) S (σ ++ [some (.ref p)]) (upd H p (.lst vs)) := by
  have hb : p ∉ β := fun hm => by
    obtain ⟨o, e⟩ := r.st.there hm
    rw [hp] at e; cases e
  have hF : F p = none := r.fh.none hp
  have hZ : Z.H p = none := by
    cases e : Z.H p with
    | none => rfl
    | some o =>
      obtain ⟨o', q⟩ := r.up.tr p o e
      rw [hp] at q; cases q
  have no : ∀ (j : Nat) (ys : List PyData), ρ[j]? = some (.own ys) → σ[j]? ≠ some (some (.ref p)) := fun j ys hj e => by
    obtain ⟨a, us, k1, k2, _⟩ := r.own j ys hj
    rw [e] at k1
    cases k1
    rw [hp] at k2; cases k2
  have rx := r.extra (o := .lst vs) hb hF hZ no
  have lt : ∀ {j : Nat} {s : Sl}, (ρ ++ [Sl.own xs])[j]? = some s → (j < ρ.length ∧ ρ[j]? = some s) ∨ (j = ρ.length ∧ s = .own xs) := fun {j s} h => by
    by_cases c : j < ρ.length
    · rw [List.getElem?_append_left c] at h; exact .inl ⟨c, h⟩
    · have c2 : j = ρ.length := by
        have := (List.getElem?_eq_some_iff.mp h).1
        rw [List.length_append, List.length_singleton] at this
        omega
      subst c2
      rw [List.getElem?_append_right (Nat.le_refl _)] at h
      simp at h
      exact .inr ⟨rfl, h.symm⟩
  have last : (σ ++ [some (V.ref p)])[ρ.length]? = some (some (.ref p)) := by rw [← r.len, List.getElem?_append_right (Nat.le_refl _)]; simp
  have old : ∀ {j : Nat}, j < ρ.length → (σ ++ [some (V.ref p)])[j]? = σ[j]? := fun {j} h => List.getElem?_append_left (by rw [r.len]; exact h)
  refine ⟨by simp [r.len], rx.fh, rx.up, rx.st, fun j u h => ?_, fun j ys h => ?_, fun j k ys zs a hjk h1 h2 h3 h4 => ?_⟩
  · rcases lt h with ⟨c, h⟩ | ⟨rfl, e⟩
    · rw [old c]; exact rx.val j u h
    · cases e
  · rcases lt h with ⟨c, h⟩ | ⟨rfl, e⟩
    · rw [old c]; exact rx.own j ys h
    · cases e
      exact ⟨p, vs, last, upd_same, hF, hb, hZ, hd⟩
  · rcases lt h1 with ⟨c1, h1⟩ | ⟨rfl, e1⟩
    · rcases lt h2 with ⟨c2, h2⟩ | ⟨rfl, e2⟩
      · rw [old c1] at h3
        rw [old c2] at h4
        exact r.dist j k ys zs a hjk h1 h2 h3 h4
      · rw [last] at h4
        cases h4
        rw [old c1] at h3
        exact no j ys h1 h3
    · rw [last] at h3
      cases h3
      rcases lt h2 with ⟨c2, h2⟩ | ⟨rfl, e2⟩
      · rw [old c2] at h4
        exact no k zs h2 h4
      · exact hjk rfl
/-- a value for one more slot -/
theorem Rl.moreV (r : Rl K Z β F ρ S σ H) (hw : RepW K β F v w) : Rl K Z β F (ρ ++ [.val w]) S (σ ++ [some v]) H := by
  have lt : ∀ {j : Nat} {s : Sl}, (ρ ++ [Sl.val w])[j]? = some s → (j < ρ.length ∧ ρ[j]? = some s) ∨ (j = ρ.length ∧ s = .val w) := fun {j s} h => by
    by_cases c : j < ρ.length
    · rw [List.getElem?_append_left c] at h; exact .inl ⟨c, h⟩
    · have c2 : j = ρ.length := by
        have := (List.getElem?_eq_some_iff.mp h).1
        rw [List.length_append, List.length_singleton] at this
        omega
      subst c2
      rw [List.getElem?_append_right (Nat.le_refl _)] at h
      simp at h
      exact .inr ⟨rfl, h.symm⟩
  have last : (σ ++ [some v])[ρ.length]? = some (some v) := by rw [← r.len, List.getElem?_append_right (Nat.le_refl _)]; simp
  have old : ∀ {j : Nat}, j < ρ.length → (σ ++ [some v])[j]? = σ[j]? := fun {j} h => List.getElem?_append_left (by rw [r.len]; exact h)
  refine ⟨by simp [r.len], r.fh, r.up, r.st, fun j u h => ?_, fun j ys h => ?_, fun j k ys zs a hjk h1 h2 h3 h4 => ?_⟩
  · rcases lt h with ⟨c, h⟩ | ⟨rfl, e⟩
    · rw [old c]; exact r.val j u h
    · cases e; exact ⟨v, last, hw⟩
  · rcases lt h with ⟨c, h⟩ | ⟨rfl, e⟩
    · rw [old c]; exact r.own j ys h
    · cases e
  · rcases lt h1 with ⟨c1, h1⟩ | ⟨_, e1⟩
    · rcases lt h2 with ⟨c2, h2⟩ | ⟨_, e2⟩
      · rw [old c1] at h3
        rw [old c2] at h4
        exact r.dist j k ys zs a hjk h1 h2 h3 h4
      · cases e2
    · cases e1
/-- the first slots alone -/
theorem Rl.first {ρ2 : Rho} {σ2 : St} (r : Rl K Z β F (ρ ++ ρ2) S (σ ++ σ2) H) (hl : σ.length = ρ.length) : Rl K Z β F ρ S σ H := by
  refine r.remap (fun j => j) hl (fun j s h _ => ?_) fun j k xs ys h _ _ => h
  have hj := (List.getElem?_eq_some_iff.mp h).1
  exact ⟨by rw [List.getElem?_append_left hj]; exact h, by rw [List.getElem?_append_left (by rw [hl]; exact hj)]⟩
/-- a slot takes the last one's -/
theorem Rl.take {s : Sl} {x : Option V} (r : Rl K Z β F (ρ ++ [s]) S (σ ++ [x]) H) (hl : σ.length = ρ.length) (hi : i < ρ.length) : Rl K Z β F (ρ.set i s) S (σ.set i x) H := by
  refine r.remap (fun j => if j = i then ρ.length else j) (by simp [hl]) (fun j t h _ => ?_) fun j k xs ys hjk h1 h2 => ?_
  · by_cases c : j = i
    · subst c
      rw [List.getElem?_set_self hi] at h
      cases h
      have ei : (if j = j then ρ.length else j) = ρ.length := if_pos rfl
      exact ⟨by rw [ei, List.getElem?_append_right (Nat.le_refl _)]; simp, by rw [ei, List.getElem?_set_self (by rw [hl]; exact hi), ← hl, List.getElem?_append_right (Nat.le_refl _)]; simp⟩
    · rw [List.getElem?_set_ne (Ne.symm c)] at h
      simp only [if_neg c]
      have hj := (List.getElem?_eq_some_iff.mp h).1
      exact ⟨by rw [List.getElem?_append_left hj]; exact h, by rw [List.getElem?_set_ne (Ne.symm c), List.getElem?_append_left (by rw [hl]; exact hj)]⟩
  · have l1 := (List.getElem?_eq_some_iff.mp h1).1
    have l2 := (List.getElem?_eq_some_iff.mp h2).1
    rw [List.length_set] at l1 l2
    show (if j = i then ρ.length else j) ≠ (if k = i then ρ.length else k)
    by_cases c1 : j = i
    · by_cases c2 : k = i
      · exact absurd (c1.trans c2.symm) hjk
      · rw [if_pos c1, if_neg c2]; omega
    · by_cases c2 : k = i
      · rw [if_neg c1, if_pos c2]; omega
      · rw [if_neg c1, if_neg c2]; exact hjk
theorem Rl.ownNew (r : Rl K Z β F ρ S σ H) {p : Addr} {vs : List V} {xs : List PyData} (hi : i < ρ.length) (hp : H p = none) (hd : DpAll K F vs xs) : Rl K Z β F (ρ.set i (.own xs)) S (σ.set i (some (.ref p))) (upd H p (.lst vs)) := (r.more hp hd).take r.len hi
/-- the list that a slot alone holds is changed -/
theorem Rl.ownUpd (r : Rl K Z β F ρ S σ H) {a : Addr} {vs : List V} {xs ys : List PyData} (hx : ρ[i]? = some (.own xs)) (ha : σ[i]? = some (some (.ref a))) (hd : DpAll K F vs ys) : Rl K Z β F (ρ.set i (.own ys)) S (σ.set i (some (.ref a))) (upd H a (.lst vs)) := by
  obtain ⟨b, us, k1, k2, k3, k4, k5, k6⟩ := r.own i xs hx
  rw [ha] at k1
  cases k1
  have hil : i < ρ.length := (List.getElem?_eq_some_iff.mp hx).1
  have es : σ.set i (some (.ref a)) = σ := by
    apply List.ext_getElem?
    intro j
    by_cases c : i = j
    · subst c; rw [List.getElem?_set_self (by rw [r.len]; exact hil)]; exact ha.symm
    · rw [List.getElem?_set_ne c]
  rw [es]
  have ne : ∀ {b : Addr}, b ≠ a → upd H a (.lst vs) b = H b := fun h => upd_ne h
  refine ⟨by simp [r.len], fun b o e => ?_, ⟨r.up.bb, r.up.ff, r.up.nf, fun b o e n => ?_, fun b o e => ?_⟩, ⟨r.st.len, r.st.nd, r.st.out, fun n b c h1 h2 => ?_⟩, fun j u h => ?_, fun j zs h => ?_, fun j k zs ts b hjk h1 h2 h3 h4 => ?_⟩
  · rw [ne (fun z => by rw [z, k3] at e; cases e)]; exact r.fh b o e
  · rw [ne (fun z => by rw [z, k5] at e; cases e)]; exact r.up.hh b o e n
  · rw [ne (fun z => by rw [z, k5] at e; cases e)]; exact r.up.tr b o e
  · have hne : b ≠ a := fun z => k4 (z ▸ List.mem_of_getElem? h1)
    exact (r.st.cell n b c h1 h2).mono (Sub.refl F) (fun _ _ e => e) fun o e => by rw [ne hne]; exact e
  · by_cases c : i = j
    · subst c; rw [List.getElem?_set_self hil] at h; cases h
    · rw [List.getElem?_set_ne c] at h; exact r.val j u h
  · by_cases c : i = j
    · subst c
      rw [List.getElem?_set_self hil] at h
      cases h
      exact ⟨a, vs, ha, upd_same, k3, k4, k5, hd⟩
    · rw [List.getElem?_set_ne c] at h
      obtain ⟨b, us', e1, e2, e3⟩ := r.own j zs h
      have hne : b ≠ a := fun z => r.dist i j xs zs a c hx h ha (by rw [e1, z])
      exact ⟨b, us', e1, by rw [ne hne]; exact e2, e3⟩
  · have own' : ∀ {m : Nat} {ts : List PyData}, (ρ.set i (Sl.own ys))[m]? = some (.own ts) → ∃ ts', ρ[m]? = some (.own ts') := fun {m ts} h => by
      by_cases c : i = m
      · subst c; exact ⟨xs, hx⟩
      · rw [List.getElem?_set_ne c] at h; exact ⟨ts, h⟩
    obtain ⟨z1, q1⟩ := own' h1
    obtain ⟨z2, q2⟩ := own' h2
    exact r.dist j k z1 z2 b hjk q1 q2 h3 h4
/-- a new object that nothing of the state holds -/
theorem Rl.stray (r : Rl K Z β F ρ S σ H) {p : Addr} {o : HO} (hp : H p = none) : Rl K Z β F ρ S σ (upd H p o) := by
  refine r.extra (fun hm => ?_) (r.fh.none hp) ?_ fun j ys hj e => ?_
  · obtain ⟨o, e⟩ := r.st.there hm
    rw [hp] at e; cases e
  · cases e : Z.H p with
    | none => rfl
    | some o =>
      obtain ⟨o', q⟩ := r.up.tr p o e
      rw [hp] at q; cases q
  · obtain ⟨a, us, k1, k2, _⟩ := r.own j ys hj
    rw [e] at k1
    cases k1
    rw [hp] at k2; cases k2
theorem set_same {σ : St} {i : Nat} {x : Option V} (h : σ[i]? = some x) : σ.set i x = σ := by
  apply List.ext_getElem?
  intro j
  by_cases c : i = j
  · subst c; rw [List.getElem?_set_self (List.getElem?_eq_some_iff.mp h).1]; exact h.symm
  · rw [List.getElem?_set_ne c]
end
end FO

set_option Elab.async false
set_option linter.all false
set_option maxHeartbeats 2000000
set_option maxRecDepth 10000
namespace FO
open PySem PySem.Spec L2
/-- what is wanted of a statement's end -/
def PwS (K : Kw) (Z : Bs) (wx : Wx) (D : Ends) (F : Hp) : Fl → Prop
  | .next ρ' S' => ∀ β' F' σ' H', Sub F F' → Rl K Z β' F' ρ' S' σ' H' → D.nx σ' H'
  | .ret w S' => ∀ β' F' v H', Up Z.β Z.F Z.H β' F' H' → Sub F' H' → StOk K β' F' S' H' → RepW K β' F' v w → D.rt v H'
  | .ex c ρ' S' => ∀ β' F' σ' H', Sub F F' → Rl K Z β' F' ρ' S' σ' H' → wx c σ' H'
  | .bad => False
section
variable {K : Kw} {Z : Bs} {wx : Wx} {D : Ends} {β : List Addr} {F F' H : Hp} {ρ : Rho} {S : Sto} {σ : St} {P : Pg} {fu : Nat}
theorem PwS.shift {fl : Fl} (h : PwS K Z wx D F fl) (s : Sub F F') : PwS K Z wx D F' fl := by
  cases fl with
  | next ρ' S' => exact fun β' F2 σ' H' s2 r => h β' F2 σ' H' (s.trans s2) r
  | ret w S' => exact h
  | ex c ρ' S' => exact fun β' F2 σ' H' s2 r => h β' F2 σ' H' (s.trans s2) r
  | bad => exact h
theorem PwS.of {α : Type} {R : Res α} {k : α → Sto → Fl} (h : PwS K Z wx D F (Fl.of ρ R k)) : Pw K Z ρ σ (fun c => wx c σ) β F H R fun a β1 F1 S1 H1 => PwS K Z wx D F1 (k a S1) := by
  cases R with
  | ok a S1 => exact fun β1 F1 H1 u r => PwS.shift (fl := k a S1) h u.ff
  | ex c S1 => exact fun β1 F1 H1 u r => h β1 F1 σ H1 u.ff r
  | bad => exact h
theorem PwS.then {fl : Fl} {k : Rho → Sto → Fl} {N : St → Hp → Prop} {D' : Ends} (h : PwS K Z wx D F (fl.then k)) (h1 : D'.rt = D.rt) (hn : ∀ ρ' S' β' F' σ' H', Sub F F' → Rl K Z β' F' ρ' S' σ' H' → PwS K Z wx D F' (k ρ' S') → D'.nx σ' H') : PwS K Z wx D' F fl := by
  cases fl with
  | next ρ' S' => exact fun β' F2 σ' H' s2 r => hn ρ' S' β' F2 σ' H' s2 r (PwS.shift (fl := k ρ' S') h s2)
  | ret w S' => intro β' F' v H' u s st r; rw [h1]; exact h β' F' v H' u s st r
  | ex c ρ' S' => exact h
  | bad => exact h
theorem Fl.of_bind {α γ : Type} (R : Res α) (f : α → Sto → Res γ) (k : γ → Sto → Fl) : Fl.of ρ (R.bind f) k = Fl.of ρ R fun a S => Fl.of ρ (f a S) k := by cases R <;> rfl
end
abbrev tS (K : Kw) (wx : Wx) (P : Pg) (fu : Nat) (sm : Sm) : TS := fun D σ H => ∃ Z β F ρ S, Rl K Z β F ρ S σ H ∧ PwS K Z wx D F (exS P fu sm ρ S)
abbrev tSs (K : Kw) (wx : Wx) (P : Pg) (fu : Nat) (sm : Sms) : TS := fun D σ H => ∃ Z β F ρ S, Rl K Z β F ρ S σ H ∧ PwS K Z wx D F (exSs P fu sm ρ S)
theorem PS.imp {X : Cx} {st : Stmt} {t t' : TS} (h : PS X st t) (i : ∀ D σ H, t' D σ H → t D σ H) : PS X st t' := ⟨fun pins s σ H D I q => h.run pins s σ H D I (i D σ H q)⟩
theorem PSs.imp {X : Cx} {st : List Stmt} {t t' : TS} (h : PSs X st t) (i : ∀ D σ H, t' D σ H → t D σ H) : PSs X st t' := ⟨fun pins s σ H D I q => h.run pins s σ H D I (i D σ H q)⟩
section
variable {K : Kw} {wx : Wx} {P : Pg} {fu : Nat} {D : Ends} {σ : St} {H : Hp}
theorem frz_S {i : Nat} {sm : Sm} (h : tS K wx P fu (.frz i sm) D σ H) : tS K wx P fu sm D σ H := by
  obtain ⟨Z, β, F, ρ, S, rl, h⟩ := h
  simp only [exS] at h
  split at h
  · rename_i n hi
    split at h
    · rename_i x S1 ht
      obtain ⟨v, k1, k2⟩ := rl.val i _ hi
      obtain ⟨F', u, rl', dp⟩ := rl.thaw k2 ht
      have hil : i < ρ.length := (List.getElem?_eq_some_iff.mp hi).1
      have rl2 := rl'.set (w := .d x) hil dp
      rw [set_same k1] at rl2
      exact ⟨Z, β, F', _, S1, rl2, h.shift u.ff⟩
    · exact h.elim
  · obtain ⟨F', s, rl'⟩ := rl.frz i
    exact ⟨Z, β, F', _, S, rl', h.shift s⟩
theorem nil_S (h : tSs K wx P fu .nil D σ H) : tNext D σ H := by
  obtain ⟨Z, β, F, ρ, S, rl, h⟩ := h
  simp only [exSs] at h
  exact h β F σ H (Sub.refl F) rl
theorem cons_S {s : Sm} {r : Sms} (h : tSs K wx P fu (.cons s r) D σ H) : tSeq (tS K wx P fu s) (tSs K wx P fu r) D σ H := by
  obtain ⟨Z, β, F, ρ, S, rl, h⟩ := h
  simp only [exSs] at h
  exact ⟨Z, β, F, ρ, S, rl, h.then (N := D.nx) rfl fun ρ' S' β' F' σ' H' s r q => ⟨Z, β', F', ρ', S', r, q⟩⟩
theorem pass_S (h : tS K wx P fu .pass D σ H) : tNext D σ H := by
  obtain ⟨Z, β, F, ρ, S, rl, h⟩ := h
  simp only [exS] at h
  exact h β F σ H (Sub.refl F) rl
theorem expr_S {e : E} (h : tS K wx P fu (.expr e) D σ H) : tDrop (tE K wx P e) D σ H := by
  obtain ⟨Z, β, F, ρ, S, rl, h⟩ := h
  simp only [exS] at h
  exact ⟨Z, β, F, ρ, S, rl, h.of.mono fun w β1 F1 S1 H1 u rl1 q v rv => q β1 F1 σ H1 (Sub.refl F1) rl1⟩
theorem ret_S {e : E} (h : tS K wx P fu (.ret e) D σ H) : tRet (tE K wx P e) D σ H := by
  obtain ⟨Z, β, F, ρ, S, rl, h⟩ := h
  simp only [exS] at h
  obtain ⟨F', s, rl'⟩ := rl.frzE e
  exact ⟨Z, β, F', _, S, rl', (h.shift s).of.mono fun w β1 F1 S1 H1 u rl1 q v rv => q β1 F1 v H1 rl1.up rl1.fh rl1.st rv⟩
theorem asg_S {i : Nat} {e : E} (h : tS K wx P fu (.asg (.nm i) e) D σ H) : tAsg (tE K wx P e) (gName i) D σ H := by
  obtain ⟨Z, β, F, ρ, S, rl, h⟩ := h
  simp only [exS] at h
  obtain ⟨F', s, rl'⟩ := rl.frzE e
  refine ⟨Z, β, F', _, S, rl', (h.shift s).of.mono fun w β1 F1 S1 H1 u rl1 q v rv => ?_⟩
  by_cases c : i < (frzE ρ e).length
  · have ea : asgW (.nm i) w (frzE ρ e) = some ((frzE ρ e).set i (.val w)) := by simp only [asgW, if_pos c]
    rw [ea] at q
    exact q β1 F1 _ H1 (Sub.refl F1) (rl1.set c rv)
  · have ea : asgW (.nm i) w (frzE ρ e) = none := by simp only [asgW, if_neg c]
    rw [ea] at q
    exact q.elim
theorem asgT_S {ts : Tgs} {e : E} (h : tS K wx P fu (.asg (.tp ts) e) D σ H) : tAsg (tE K wx P e) (gT K (.tp ts)) D σ H := by
  obtain ⟨Z, β, F, ρ, S, rl, h⟩ := h
  simp only [exS] at h
  obtain ⟨F', s, rl'⟩ := rl.frzE e
  refine ⟨Z, β, F', _, S, rl', (h.shift s).of.mono fun w β1 F1 S1 H1 u rl1 q v rv => ?_⟩
  cases w with
  | ref n => exact q.elim
  | exc c => exact q.elim
  | d x =>
    have q : PwS K Z wx D F1 (match asgT (.tp ts) x (frzE ρ e) with
      | some ρ' => .next ρ' S1
      | none => .bad) := q
    cases ea : asgT (.tp ts) x (frzE ρ e) with
    | none => rw [ea] at q; exact q.elim
    | some ρ' =>
      rw [ea] at q
      exact ⟨F1, x, rl1.fh, rv, asg_shp _ _ _ _ ea, fun σ' hs => q β1 F1 σ' H1 (Sub.refl F1) (Rl.asg hs ea rl1)⟩
theorem own_S {i : Nat} {e : E} (h : tS K wx P fu (.own i e) D σ H) : tAsg (tN K wx P e) (gName i) D σ H := by
  obtain ⟨Z, β, F, ρ, S, rl, h⟩ := h
  simp only [exS] at h
  refine ⟨Z, β, F, ρ, S, rl, h.of.mono fun w β1 F1 S1 H1 u rl1 q => ?_⟩
  cases w with
  | ref n => exact q.elim
  | exc c => exact q.elim
  | d x =>
    cases x with
    | list xs =>
      refine ⟨xs, rfl, fun p vs hp hd => ?_⟩
      by_cases c : i < ρ.length
      · simp only [if_pos c] at q
        exact q β1 F1 _ _ (Sub.refl F1) (rl1.ownNew c hp hd)
      · simp only [if_neg c] at q
        exact q.elim
    | _ => exact q.elim
theorem iff_S {c : E} {a b : Sms} (h : tS K wx P fu (.iff c a b) D σ H) : tIfS (tT K wx P c) (tSs K wx P fu a) (tSs K wx P fu b) D σ H := by
  obtain ⟨Z, β, F, ρ, S, rl, h⟩ := h
  simp only [exS] at h
  refine ⟨Z, β, F, ρ, S, rl, h.of.mono fun w β1 F1 S1 H1 u rl1 q => ?_⟩
  cases w with
  | ref n => exact q.elim
  | exc c => exact q.elim
  | d x =>
    cases x with
    | bool k =>
      refine ⟨k, rfl, ?_⟩
      cases k with
      | true => exact ⟨Z, β1, F1, ρ, S1, rl1, q⟩
      | false => exact ⟨Z, β1, F1, ρ, S1, rl1, q⟩
    | _ => exact q.elim
theorem raise_S {c : Nat} (h : tS K wx P fu (.raise c) D σ H) : wx c σ H := by
  obtain ⟨Z, β, F, ρ, S, rl, h⟩ := h
  simp only [exS] at h
  exact h β F σ H (Sub.refl F) rl
theorem while_S {c : E} {b : Sms} (h : tS K wx P fu (.while_ c b) D σ H) : tWhile (tT K wx P c) (tSs K wx P fu b) D σ H := by
  obtain ⟨Z, β, F, ρ, S, rl, h⟩ := h
  simp only [exS] at h
  refine ⟨fun m σ H => ∃ β F ρ S, Rl K Z β F ρ S σ H ∧ PwS K Z wx D F (whileL (fun ρ' S' => ev P c ρ' S') (fun ρ' S' => exSs P fu b ρ' S') m ρ S), ⟨fu, β, F, ρ, S, rl, h⟩, ?_⟩
  rintro m σ H ⟨β, F, ρ, S, rl, h⟩
  cases m with
  | zero => exact h.elim
  | succ m =>
    simp only [whileL] at h
    refine ⟨Z, β, F, ρ, S, rl, h.of.mono fun w β1 F1 S1 H1 u rl1 q => ?_⟩
    cases w with
    | ref n => exact q.elim
    | exc c => exact q.elim
    | d x =>
      cases x with
      | bool k =>
        refine ⟨k, rfl, ?_⟩
        cases k with
        | true =>
          rw [if_pos rfl]
          refine ⟨fun σ' H' => ∃ β F ρ S, Rl K Z β F ρ S σ' H' ∧ PwS K Z wx D F (whileL (fun ρ' S' => ev P c ρ' S') (fun ρ' S' => exSs P fu b ρ' S') m ρ S), fun σ' H' q => ⟨m, Nat.lt_succ_self m, q⟩, Z, β1, F1, ρ, S1, rl1, ?_⟩
          exact PwS.then (N := D.nx) q rfl fun ρ' S' β' F' σ' H' s r q => ⟨β', F', ρ', S', r, q⟩
        | false =>
          rw [if_neg Bool.false_ne_true]
          exact q β1 F1 σ H1 (Sub.refl F1) rl1
      | _ => exact q.elim
theorem for_S {tg : Tg} {it : FO.It} {b : Sms} (h : tS K wx P fu (.for_ tg it b) D σ H) : tFor (iD K wx P it) (gT K tg) (tSs K wx P fu b) D σ H := by
  obtain ⟨Z, β, F, ρ, S, rl, h⟩ := h
  simp only [exS] at h
  obtain ⟨F0, s0, rl0⟩ := rl.frzI it
  refine ⟨Z, β, F0, _, S, rl0, (h.shift s0).of.mono fun ds β1 F1 S1 H1 u rl1 q J _ jf => ?_⟩
  have jf := jf (noOwn_frz ρ it)
  refine ⟨fun i m σ H => i ≤ ds.length ∧ m = ds.length - i ∧ ∃ β F ρ S, Sub F1 F ∧ Rl K Z β F ρ S σ H ∧ PwS K Z wx D F (forL (fun x ρ' S' => match asgT tg x ρ' with
        | some ρ2 => exSs P fu b ρ2 S'
        | none => .bad) (ds.drop i) ρ S), ⟨ds.length, Nat.zero_le _, rfl, β1, F1, _, S1, Sub.refl F1, rl1, q⟩, ?_⟩
  rintro i m σ H ⟨hi, rfl, β, F, ρ, S, sF, rl, h⟩
  obtain ⟨yl, ystop⟩ := jf F H sF rl.fh
  by_cases hnl : ¬ i < ds.length
  · have ei : i = ds.length := by omega
    subst ei
    rw [List.drop_length] at h
    exact .inl ⟨ystop, h β F σ H (Sub.refl F) rl⟩
  · have hlt : i < ds.length := Decidable.of_not_not hnl
    obtain ⟨x, hx⟩ : ∃ x, ds[i]? = some x := ⟨ds[i], List.getElem?_eq_getElem hlt⟩
    obtain ⟨go, ylds⟩ := yl i x hx
    have edrop : ds.drop i = x :: ds.drop (i + 1) := by
      rw [List.drop_eq_getElem_cons hlt]
      rw [List.getElem?_eq_getElem hlt] at hx
      cases hx; rfl
    rw [edrop] at h
    simp only [forL] at h
    refine .inr ⟨go, _, fun σ' H' nx => ⟨ds.length - (i + 1), by omega, nx⟩, fun y H3 yy => ?_⟩
    obtain ⟨F3, n3, dy⟩ := ylds y H3 yy
    have rl3 := rl.nw n3
    cases ea : asgT tg x ρ with
    | none => rw [ea] at h; exact h.elim
    | some ρ' =>
      rw [ea] at h
      refine ⟨F3, x, rl3.fh, dy, asg_shp _ _ _ _ ea, fun σ' hσ => ?_⟩
      refine ⟨Z, β, F3, ρ', S, Rl.asg hσ ea rl3, ?_⟩
      exact PwS.then (N := D.nx) (h.shift n3.ff) rfl fun ρ2 S2 β2 F2 σ2 H2 s2 r2 q2 => ⟨hlt, rfl, β2, F2, ρ2, S2, (sF.trans n3.ff).trans s2, r2, q2⟩
/-- name op= e -/
def rAug (K : PySem.W.Frag) (o : BinO) : R2 := fun x y H Q => (o = .add ∧ rExtS K x y H Q) ∨ (o = .add ∧ ∃ i j : Int, x = .int i ∧ y = .int j ∧ Q (.int (i + j)) H) ∨ (o = .sub ∧ ∃ i j : Int, x = .int i ∧ y = .int j ∧ Q (.int (i - j)) H) ∨
  (o = .add ∧ ∃ i j : Str, x = .str i ∧ y = .str j ∧ i.length + j.length ≤ sizeLine ∧ Q (.str (i ++ j)) H)
theorem iop_aug {X : Cx} (o : BinO) : PIp X (opO o) (rAug X.K o) := by
  intro pins s σ H x y v u Q I rx ry h
  rcases h with ⟨rfl, h⟩ | ⟨rfl, i, j, h1, h2, h⟩ | ⟨rfl, i, j, h1, h2, h⟩ | ⟨rfl, h⟩
  · exact iop_extS pins s σ H x y v u Q I rx ry h
  · exact iop_add pins s σ H x y v u Q I rx ry ⟨i, j, h1, h2, h⟩
  · exact iop_sub pins s σ H x y v u Q I rx ry ⟨i, j, h1, h2, h⟩
  · exact iop_add_str pins s σ H x y v u Q I rx ry h
theorem aug_S {i : Nat} {o : BinO} {e : E} (ho : o = .add ∨ o = .sub) (h : tS K wx P fu (.aug i o e) D σ H) : tAug i (tE K wx P e) (rAug K o) D σ H := by
  obtain ⟨Z, β, F, ρ, S, rl, h⟩ := h
  simp only [exS] at h
  cases q : ρ[i]? with
  | none => rw [q] at h; exact h.elim
  | some s =>
    rw [q] at h
    cases s with
    | un => exact h.elim
    | own xs =>
      obtain ⟨a, vs, k1, k2, k3, k4, k5, k6⟩ := rl.own i xs q
      refine ⟨.ref a, k1, Z, β, F, ρ, S, rl, (PwS.of (R := ev P e ρ S) h).mono fun w β1 F1 S1 H1 u rl1 q1 y ry => ?_⟩
      cases w with
      | ref n => cases o <;> exact q1.elim
      | exc n => cases o <;> exact q1.elim
      | d x =>
        cases x with
        | list ys =>
          rcases ho with rfl | rfl
          · dsimp only at q1
            by_cases c : Nat.ble (xs.length + ys.length) lim = true
            · rw [if_pos c] at q1
              obtain ⟨b, us, e1, e2, e3, e4, e5, e6⟩ := rl1.own i xs q
              rw [k1] at e1
              cases e1
              cases ry with
              | lst hq hds =>
                refine .inl ⟨rfl, _, _, us, _, rfl, rfl, e2, sqL_sub rl1.fh hq, ?_, ?_⟩
                · rw [dps_len e6, dps_len hds]; exact lim_le c
                · exact q1 β1 F1 _ _ (Sub.refl F1) (rl1.ownUpd q k1 (dps_app e6 hds))
            · rw [if_neg c] at q1; exact q1.elim
          · exact q1.elim
        | _ => cases o <;> exact q1.elim
    | val w =>
      cases w with
      | ref n =>
        obtain ⟨v, k1, k2⟩ := rl.val i _ q
        obtain ⟨a, ha, rfl⟩ := k2
        refine ⟨.ref a, k1, Z, β, F, ρ, S, rl, (PwS.of (R := ev P e ρ S) h).mono fun w β1 F1 S1 H1 u rl1 q1 y ry => ?_⟩
        have ha1 := u.get ha
        cases qc : S1[n]? with
        | none => rw [qc] at q1; cases o <;> exact q1.elim
        | some c =>
          rw [qc] at q1
          rcases ho with rfl | rfl
          case inr => exact q1.elim
          cases c with
          | lst xs =>
            cases w with
            | ref m => exact q1.elim
            | exc m => exact q1.elim
            | d x =>
              cases x with
              | list ys =>
                dsimp only at q1
                by_cases c : Nat.ble (xs.length + ys.length) lim = true
                · rw [if_pos c] at q1
                  obtain ⟨us, e2, e6⟩ := rl1.st.cell n a _ ha1 qc
                  cases (show Dp K F1 y (.list ys) from ry) with
                  | lst hq hds =>
                    refine .inl ⟨rfl, _, _, us, _, rfl, rfl, e2, sqL_sub rl1.fh hq, ?_, ?_⟩
                    · rw [dps_len e6, dps_len hds]; exact lim_le c
                    · show D.nx (σ.set i (some (.ref a))) _
                      rw [set_same k1]
                      exact q1 β1 F1 _ _ (Sub.refl F1) (rl1.cellSet ha1 qc rfl fun H2 e => ⟨_, e, dps_app e6 hds⟩)
                · rw [if_neg c] at q1; exact q1.elim
              | _ => exact q1.elim
          | _ => exact q1.elim
      | exc n => exact h.elim
      | d x =>
        dsimp only at h
        by_cases c1 : isSc x = true
        · rw [if_pos c1] at h
          obtain ⟨v, k1, k2⟩ := rl.val i _ q
          have hil : i < ρ.length := (List.getElem?_eq_some_iff.mp q).1
          refine ⟨v, k1, Z, β, F, ρ, S, rl, (PwS.of (R := ev P e ρ S) h).mono fun w β1 F1 S1 H1 u rl1 q1 y ry => ?_⟩
          cases w with
          | ref n => exact q1.elim
          | exc n => exact q1.elim
          | d d2 =>
            dsimp only at q1
            by_cases c2 : isSc d2 = true
            · rw [if_pos c2] at q1
              cases eb : binD o x d2 with
              | none => rw [eb] at q1; exact q1.elim
              | some z =>
                rw [eb] at q1
                have fin : ∀ vz, Dp K F1 vz z → D.nx (σ.set i (some vz)) H1 := fun vz dz => q1 β1 F1 _ H1 (Sub.refl F1) (rl1.set (w := .d z) hil dz)
                rcases ho with rfl | rfl
                · cases x with
                  | int a =>
                    cases d2 with
                    | int b =>
                      cases (show Dp K F v (.int a) from k2)
                      cases (show Dp K F1 y (.int b) from ry)
                      cases eb
                      exact .inr (.inl ⟨rfl, a, b, rfl, rfl, fin _ (.int _)⟩)
                    | _ => cases eb
                  | str a =>
                    cases d2 with
                    | str b =>
                      cases (show Dp K F v (.str a) from k2)
                      cases (show Dp K F1 y (.str b) from ry)
                      obtain ⟨hz, rfl⟩ := ble_of eb
                      exact .inr (.inr (.inr ⟨rfl, a, b, rfl, rfl, hz, fin _ (.str _)⟩))
                    | _ => cases eb
                  | list _ => cases c1
                  | tuple _ => cases c1
                  | none => cases d2 <;> cases eb
                  | bool _ => cases d2 <;> cases eb
                  | dict _ => cases c1
                · cases x with
                  | int a =>
                    cases d2 with
                    | int b =>
                      cases (show Dp K F v (.int a) from k2)
                      cases (show Dp K F1 y (.int b) from ry)
                      cases eb
                      exact .inr (.inr (.inl ⟨rfl, a, b, rfl, rfl, fin _ (.int _)⟩))
                    | _ => cases eb
                  | str _ => cases d2 <;> cases eb
                  | list _ => cases c1
                  | tuple _ => cases c1
                  | none => cases d2 <;> cases eb
                  | bool _ => cases d2 <;> cases eb
                  | dict _ => cases c1
            · rw [if_neg c2] at q1; exact q1.elim
        · rw [if_neg c1] at h; exact h.elim
theorem app_S {i : Nat} {e : E} (h : tS K wx P fu (.app i e) D σ H) : tDrop (tBM K "list" rAppend (tVar i) (tCons (tE K wx P e) tNil)) D σ H := by
  obtain ⟨Z, β, F, ρ, S, rl, h⟩ := h
  simp only [exS] at h
  obtain ⟨F', s, rl'⟩ := rl.frzE e
  have h := h.shift s
  cases hx : (frzE ρ e)[i]? with
  | none => rw [hx] at h; exact h.elim
  | some t =>
    rw [hx] at h
    cases t with
    | un => exact h.elim
    | val u => exact h.elim
    | own xs =>
      obtain ⟨a, vs, k1, k2, k3, k4, k5, k6⟩ := rl'.own i xs hx
      refine ⟨.ref a, k1, .inl ⟨rfl, vs, .inl (.inl k2)⟩, ?_⟩
      refine ⟨Z, β, F', _, S, rl', (PwS.of (R := ev P e (frzE ρ e) S) h).mono fun w β1 F1 S1 H1 u rl1 q y ry => ?_⟩
      cases w with
      | ref n => exact q.elim
      | exc n => exact q.elim
      | d x =>
        dsimp only at q
        by_cases c : Nat.blt xs.length lim = true
        · rw [if_pos c] at q
          obtain ⟨b, us, e1, e2, e3, e4, e5, e6⟩ := rl1.own i xs hx
          rw [k1] at e1
          cases e1
          have hl := dps_len e6
          have hb : xs.length < 1000000 := Nat.le_of_ble_eq_true c
          refine ⟨_, us, y, rfl, rfl, e2, Nat.lt_of_lt_of_le (show us.length < 1000000 by omega) szl, ?_⟩
          have es : σ.set i (some (.ref a)) = σ := by
            apply List.ext_getElem?
            intro j
            by_cases c : i = j
            · subst c; rw [List.getElem?_set_self (List.getElem?_eq_some_iff.mp k1).1]; exact k1.symm
            · rw [List.getElem?_set_ne c]
          have r2 := rl1.ownUpd hx k1 (dps_app e6 (.cons ry .nil))
          rw [es] at r2
          exact q β1 F1 _ _ (Sub.refl F1) r2
        · rw [if_neg c] at q; exact q.elim
theorem paired_app {α γ : Type} {R : α → γ → Prop} : ∀ {l l2 : List α} {m m2 : List γ}, Paired R l m → Paired R l2 m2 → Paired R (l ++ l2) (m ++ m2)
  | _, _, _, _, .nil, h => h
  | _, _, _, _, .cons a b, h => .cons a (paired_app b h)
theorem appE_S {o e : E} (h : tS K wx P fu (.appE o e) D σ H) : tDrop (tBM K "list" rAppend (tE K wx P o) (tCons (tE K wx P e) tNil)) D σ H := by
  obtain ⟨Z, β, F, ρ, S, rl, h⟩ := h
  simp only [exS] at h
  refine ⟨Z, β, F, ρ, S, rl, h.of.mono fun ow β1 F1 S1 H1 u1 rl1 q1 ov rov => ?_⟩
  cases ow with
  | d x => exact q1.elim
  | exc c => exact q1.elim
  | ref n =>
    obtain ⟨a, ha, rfl⟩ := rov
    dsimp only at q1
    cases qc : S1[n]? with
    | none => rw [qc] at q1; exact q1.elim
    | some c =>
      rw [qc] at q1
      cases c with
      | lst zs =>
        obtain ⟨vs0, g1, _⟩ := rl1.st.cell n a _ ha qc
        refine ⟨.inl ⟨rfl, vs0, .inl (.inl g1)⟩, Z, β1, F1, ρ, S1, rl1, (PwS.of (R := ev P e ρ S1) q1).mono fun w β2 F2 S2 H2 u2 rl2 q2 y ry => ?_⟩
        have ha2 := u2.get ha
        cases qd : S2[n]? with
        | none => rw [qd] at q2; exact q2.elim
        | some c2 =>
          rw [qd] at q2
          cases c2 with
          | lst xs =>
            cases w with
            | ref m => exact q2.elim
            | exc m => exact q2.elim
            | d x =>
              dsimp only at q2
              by_cases c : Nat.blt xs.length lim = true
              · rw [if_pos c] at q2
                obtain ⟨vs, k1, k2⟩ := rl2.st.cell n a _ ha2 qd
                have hz : vs.length < sizeLine := by
                  have : xs.length < 1000000 := Nat.le_of_ble_eq_true c
                  rw [dps_len k2, sizeLine_eq]; omega
                exact ⟨a, vs, y, rfl, rfl, k1, hz, q2 β2 F2 _ _ (Sub.refl F2) (rl2.cellSet ha2 qd rfl fun H3 e => ⟨_, e, dps_app k2 (.cons ry .nil)⟩)⟩
              · rw [if_neg c] at q2; exact q2.elim
          | _ => exact q2.elim
      | lstW zs =>
        obtain ⟨vs0, g1, _⟩ := rl1.st.cell n a _ ha qc
        refine ⟨.inl ⟨rfl, vs0, .inl (.inl g1)⟩, Z, β1, F1, ρ, S1, rl1, (PwS.of (R := ev P e ρ S1) q1).mono fun w β2 F2 S2 H2 u2 rl2 q2 y ry => ?_⟩
        have ha2 := u2.get ha
        cases qd : S2[n]? with
        | none => rw [qd] at q2; exact q2.elim
        | some c2 =>
          rw [qd] at q2
          cases c2 with
          | lstW xs =>
            dsimp only at q2
            by_cases c : Nat.blt xs.length lim = true
            · rw [if_pos c] at q2
              obtain ⟨vs, k1, k2⟩ := rl2.st.cell n a _ ha2 qd
              have hz : vs.length < sizeLine := by
                have : xs.length < 1000000 := Nat.le_of_ble_eq_true c
                rw [paired_len k2, sizeLine_eq]; omega
              exact ⟨a, vs, y, rfl, rfl, k1, hz, q2 β2 F2 _ _ (Sub.refl F2) (rl2.cellSet ha2 qd rfl fun H3 e => ⟨_, e, paired_app k2 (.cons ry .nil)⟩)⟩
            · rw [if_neg c] at q2; exact q2.elim
          | _ => exact q2.elim
      | _ => exact q1.elim
theorem setf_S {c : Nat} {o e : E} {f : Str} (hc : Cls K.K (clA K.K c)) (hn : NoAttr K.K (clA K.K c) f) {te : TE} (hte : ∀ Q, tE K wx P e σ H Q → te σ H Q) (h : tS K wx P fu (.setf c o f e) D σ H) : sFld K.K (tE K wx P o) te f D σ H := by
  obtain ⟨Z, β, F, ρ, S, rl, h⟩ := h
  simp only [exS] at h
  refine hte _ ⟨Z, β, F, ρ, S, rl, h.of.mono fun w β1 F1 S1 H1 u1 rl1 q1 v rv => ?_⟩
  refine ⟨Z, β1, F1, ρ, S1, rl1, q1.of.mono fun ow β2 F2 S2 H2 u2 rl2 q2 ov rov => ?_⟩
  cases ow with
  | d x => exact q2.elim
  | exc c => exact q2.elim
  | ref n =>
    obtain ⟨a, ha, rfl⟩ := rov
    dsimp only at q2
    cases qc : S2[n]? with
    | none => rw [qc] at q2; exact q2.elim
    | some cc =>
      rw [qc] at q2
      cases cc with
      | ins k fs =>
        dsimp only at q2
        by_cases e : k = c ∧ fs.length < 900
        · rw [if_pos e] at q2
          obtain ⟨e, hl⟩ := e
          subst e
          obtain ⟨dx, gs, g1, g2⟩ := rl2.st.cell n a _ ha qc
          refine ⟨a, _, dx, gs, rfl, g1, hc, hn, by rw [paired_len g2]; omega, ?_⟩
          exact q2 β2 F2 _ _ (Sub.refl F2) (rl2.cellSet ha qc rfl fun H3 e => ⟨dx, _, e, fld_put (repW_up u2 rv) g2⟩)
        · rw [if_neg e] at q2; exact q2.elim
      | _ => exact q2.elim
/-- a list's place or a dict's key is stored -/
def rSetK (X : Cx) : V → V → V → Hp → (Hp → Prop) → Prop := fun o i v H Q => ∃ (β : List Addr) (F : Hp) (a : Addr) (ob : Obj) (kvs : List (PyData × W)) (k : PyData) (w : W), o = .ref a ∧ Sub F H ∧ H a = some (xO a ob) ∧ DctOk (kx X) β F a ob kvs ∧ kvs.length < 1000000 ∧ kOk kvs k = true ∧ Dp X.K F i k ∧ RepW (kx X) β F v w ∧
  ∀ ob', DctOk (kx X) β F a ob' (dput kvs k w) → Q (upd H a (xO a ob'))
def rSetE (X : Cx) : V → V → V → Hp → (Hp → Prop) → Prop := fun o i v H Q => rSetL o i v H Q ∨ rSetK X o i v H Q
theorem set_E {X : Cx} (hu : X.A.units + 65 < cLine) : PSet X (rSetE X) := by
  intro pins s σ H o i v ov iv u Q I ro ri rv h
  rcases h with h | h
  · exact set_list pins s σ H o i v ov iv u Q I ro ri rv h
  · obtain ⟨β, F, a, ob, kvs, k, w, rfl, sub, hh, d, few, hk, kd, rw', q⟩ := h
    cases ro
    exact dc_setItem (by omega) I sub hh d few hk kd ri rv rw' fun s' ob' I' d' => ⟨_, I', q ob' d'⟩
theorem setix_S {X : Cx} {o i e : E} (h : tS (kx X) wx P fu (.setix o i e) D σ H) : tAsg (tE (kx X) wx P e) (gSub (tE (kx X) wx P o) (tE (kx X) wx P i) (rSetE X)) D σ H := by
  obtain ⟨Z, β, F, ρ, S, rl, h⟩ := h
  simp only [exS] at h
  refine ⟨Z, β, F, ρ, S, rl, h.of.mono fun w β1 F1 S1 H1 u1 rl1 q1 v rv => ?_⟩
  refine ⟨Z, β1, F1, ρ, S1, rl1, q1.of.mono fun ow β2 F2 S2 H2 u2 rl2 q2 ov rov => ?_⟩
  refine ⟨Z, β2, F2, ρ, S2, rl2, q2.of.mono fun iw β3 F3 S3 H3 u3 rl3 q3 iv riv => ?_⟩
  have rv3 := repW_up u3 (repW_up u2 rv)
  have rov3 := repW_up u3 rov
  cases ow with
  | d x => cases iw <;> exact q3.elim
  | exc c => cases iw <;> exact q3.elim
  | ref n =>
    cases iw with
    | ref m => exact q3.elim
    | exc c => exact q3.elim
    | d y =>
      obtain ⟨a, ha, rfl⟩ := rov3
      have dct : ∀ {kvs : List (PyData × W)}, S3[n]? = some (.dct kvs) → PwS (kx X) Z wx D F3 (if (kOk kvs y && Nat.blt kvs.length lim) = true then .next ρ (S3.set n (.dct (dput kvs y w))) else .bad) → rSetE X (.ref a) iv v H3 fun H' => D.nx σ H' := fun {kvs} qc q3 => by
        obtain ⟨ob, k1, k2⟩ := rl3.st.cell n a _ ha qc
        by_cases c : (kOk kvs y && Nat.blt kvs.length lim) = true
        · rw [if_pos c] at q3
          obtain ⟨c1, c2⟩ := Bool.and_eq_true_iff.mp c
          have few : kvs.length < 1000000 := Nat.le_of_ble_eq_true c2
          refine .inr ⟨β3, F3, a, ob, kvs, y, w, rfl, rl3.fh, k1, k2, few, c1, riv, rv3, fun ob' d' => ?_⟩
          exact q3 β3 F3 _ _ (Sub.refl F3) (rl3.cellSet ha qc rfl fun H2 e => ⟨ob', e, d'⟩)
        · rw [if_neg c] at q3; exact q3.elim
      cases y with
      | int k =>
        cases (show Dp X.K F3 iv (.int k) from riv)
        dsimp only at q3
        cases qc : S3[n]? with
        | none => rw [qc] at q3; exact q3.elim
        | some c =>
          rw [qc] at q3
          cases c with
          | dct kvs => exact dct qc (by cases w <;> exact q3)
          | lst xs =>
            cases w with
            | ref m => exact q3.elim
            | exc m => exact q3.elim
            | d x =>
              dsimp only at q3
              obtain ⟨vs, k1, k2⟩ := rl3.st.cell n a _ ha qc
              cases ej : ixN xs.length k with
              | none => rw [ej] at q3; exact q3.elim
              | some j =>
                rw [ej] at q3
                refine .inl ⟨a, vs, k, j, rfl, rfl, k1, by rw [dps_len k2]; exact ej, ?_⟩
                exact q3 β3 F3 _ _ (Sub.refl F3) (rl3.cellSet ha qc rfl fun H2 e => ⟨_, e, dps_set rv3 j k2⟩)
          | lstW xs =>
            have q3 : PwS (kx X) Z wx D F3 (match ixN xs.length k with
              | some j => .next ρ (S3.set n (.lstW (xs.set j w)))
              | none => .bad) := by cases w <;> exact q3
            obtain ⟨vs, k1, k2⟩ := rl3.st.cell n a _ ha qc
            cases ej : ixN xs.length k with
            | none => rw [ej] at q3; exact q3.elim
            | some j =>
              rw [ej] at q3
              refine .inl ⟨a, vs, k, j, rfl, rfl, k1, by rw [paired_len k2]; exact ej, ?_⟩
              exact q3 β3 F3 _ _ (Sub.refl F3) (rl3.cellSet ha qc rfl fun H2 e => ⟨_, e, paired_set rv3 j k2⟩)
          | _ => cases w <;> exact q3.elim
      | _ =>
        dsimp only at q3
        cases qc : S3[n]? with
        | none => rw [qc] at q3; exact q3.elim
        | some c =>
          rw [qc] at q3
          cases c with
          | dct kvs => exact dct qc q3
          | _ => exact q3.elim
/-! ### a, b = .. -/
def tX (K : Kw) (wx : Wx) (P : Pg) (b : Bool) (e : E) : TE := if b = true then tN K wx P e else tE K wx P e
/-- one value behind another; the values so far lie in further slots -/
theorem one_P {Z : Bs} {β : List Addr} {F : Hp} {ρ ρ2 : Rho} {σ2 : St} {S : Sto} {b : Bool} {e : E} {f : Sl → Sto → Res (List Sl)} {k : List Sl → Sto → Fl} {Q : VK} (hl : σ.length = ρ.length) (rl : Rl K Z β F (ρ ++ ρ2) S (σ ++ σ2) H)
    (h : PwS K Z wx D F (Fl.of ρ ((ev P e ρ S).bind fun w S1 => (Res.lift S1 (ownS b w)).bind f) k))
    (g : ∀ s v β1 F1 S1 H1, Rl K Z β1 F1 (ρ ++ (ρ2 ++ [s])) S1 (σ ++ (σ2 ++ [some v])) H1 → PwS K Z wx D F1 (Fl.of ρ (f s S1) k) → Q v H1) : tX K wx P b e σ H Q := by
  rw [Fl.of_bind] at h
  have rl0 := rl.first hl
  have hh : Pw K Z ρ σ (fun c => wx c σ) β F H (ev P e ρ S) fun w β1 F1 S1 H1 => ∃ s, ownS b w = some s ∧ Rl K Z β1 F1 (ρ ++ ρ2) S1 (σ ++ σ2) H1 ∧ PwS K Z wx D F1 (Fl.of ρ (f s S1) k) := by
    refine h.of.mono fun w β1 F1 S1 H1 u rl1 q => ?_
    cases eo : ownS b w with
    | none => rw [eo] at q; exact q.elim
    | some s =>
      rw [eo] at q
      exact ⟨s, rfl, rl.next u rl1.fh rl1.st, q⟩
  unfold tX
  cases b with
  | false =>
    rw [if_neg Bool.false_ne_true]
    refine ⟨Z, β, F, ρ, S, rl0, hh.mono fun w β1 F1 S1 H1 u rl1 ⟨s, es, rx, q⟩ v rv => ?_⟩
    cases es
    have := rx.moreV rv
    rw [List.append_assoc, List.append_assoc] at this
    exact g _ v β1 F1 S1 H1 this q
  | true =>
    rw [if_pos rfl]
    refine ⟨Z, β, F, ρ, S, rl0, hh.mono fun w β1 F1 S1 H1 u rl1 ⟨s, es, rx, q⟩ => ?_⟩
    cases w with
    | ref n => cases es
    | exc c => cases es
    | d x =>
      cases x with
      | list xs =>
        cases es
        refine ⟨xs, rfl, fun p vs hp hd => ?_⟩
        have := rx.more hp hd
        rw [List.append_assoc, List.append_assoc] at this
        exact g _ (.ref p) β1 F1 S1 _ this q
      | _ => cases es
theorem Rl.put {Z : Bs} {β : List Addr} {F : Hp} {ρ : Rho} {S : Sto} {s : Sl} {ts : List Sl} {x : Option V} {ys : St} {i : Nat} (r : Rl K Z β F (ρ ++ s :: ts) S (σ ++ x :: ys) H) (hl : σ.length = ρ.length) (ht : ys.length = ts.length) (hi : i < ρ.length) : Rl K Z β F (ρ.set i s ++ ts) S (σ.set i x ++ ys) H := by
  have get0 : (ρ ++ s :: ts)[ρ.length]? = some s := by rw [List.getElem?_append_right (Nat.le_refl _)]; simp
  have get1 : ∀ m, (ρ ++ s :: ts)[ρ.length + m + 1]? = ts[m]? := fun m => by rw [List.getElem?_append_right (by omega)]; simp [show ρ.length + m + 1 - ρ.length = m + 1 by omega]
  have gst0 : (σ ++ x :: ys)[ρ.length]? = some x := by rw [← hl, List.getElem?_append_right (Nat.le_refl _)]; simp
  have gst1 : ∀ m, (σ ++ x :: ys)[ρ.length + m + 1]? = ys[m]? := fun m => by rw [← hl, List.getElem?_append_right (by omega)]; simp [show σ.length + m + 1 - σ.length = m + 1 by omega]
  let f : Nat → Nat := fun j => if j = i then ρ.length else if j < ρ.length then j else j + 1
  have fi : f i = ρ.length := if_pos rfl
  have fl : ∀ m, f (ρ.length + m) = ρ.length + m + 1 := fun m => by show (if ρ.length + m = i then _ else _) = _; rw [if_neg (by omega), if_neg (by omega)]
  have fo : ∀ j, j < ρ.length → j ≠ i → f j = j := fun j h1 h2 => by show (if j = i then _ else _) = _; rw [if_neg h2, if_pos h1]
  have dom : ∀ {j : Nat} {u : Sl}, (ρ.set i s ++ ts)[j]? = some u → (j = i ∧ u = s) ∨ (∃ m, j = ρ.length + m ∧ ts[m]? = some u) ∨ (j < ρ.length ∧ j ≠ i ∧ ρ[j]? = some u) := fun {j u} h => by
    by_cases c : j < ρ.length
    · rw [List.getElem?_append_left (by rw [List.length_set]; exact c)] at h
      by_cases c2 : i = j
      · subst c2; rw [List.getElem?_set_self hi] at h; cases h; exact .inl ⟨rfl, rfl⟩
      · rw [List.getElem?_set_ne c2] at h; exact .inr (.inr ⟨c, Ne.symm c2, h⟩)
    · rw [List.getElem?_append_right (by rw [List.length_set]; omega), List.length_set] at h
      exact .inr (.inl ⟨j - ρ.length, by omega, h⟩)
  refine r.remap f (by simp [hl, ht]) (fun j u h _ => ?_) fun j k xs zs hjk h1 h2 => ?_
  · rcases dom h with ⟨rfl, rfl⟩ | ⟨m, rfl, hm⟩ | ⟨c, c2, h⟩
    · rw [fi]
      exact ⟨get0, by rw [gst0, List.getElem?_append_left (by rw [List.length_set, hl]; exact hi), List.getElem?_set_self (by rw [hl]; exact hi)]⟩
    · rw [fl]
      exact ⟨(get1 m).trans hm, by rw [gst1, List.getElem?_append_right (by rw [List.length_set, hl]; omega), List.length_set, hl]; simp [show ρ.length + m - ρ.length = m by omega]⟩
    · rw [fo j c c2]
      exact ⟨by rw [List.getElem?_append_left c]; exact h, by rw [List.getElem?_append_left (by rw [List.length_set, hl]; exact c), List.getElem?_set_ne (Ne.symm c2), List.getElem?_append_left (by rw [hl]; exact c)]⟩
  · rcases dom h1 with ⟨rfl, _⟩ | ⟨m, rfl, _⟩ | ⟨c, c2, _⟩
    · rcases dom h2 with ⟨rfl, _⟩ | ⟨m', rfl, _⟩ | ⟨d, d2, _⟩
      · exact absurd rfl hjk
      · rw [fi, fl]; omega
      · rw [fi, fo k d d2]; omega
    · rcases dom h2 with ⟨rfl, _⟩ | ⟨m', rfl, _⟩ | ⟨d, d2, _⟩
      · rw [fi, fl]; omega
      · rw [fl, fl]; omega
      · rw [fl, fo k d d2]; omega
    · rcases dom h2 with ⟨rfl, _⟩ | ⟨m', rfl, _⟩ | ⟨d, d2, _⟩
      · rw [fi, fo j c c2]; omega
      · rw [fl, fo j c c2]; omega
      · rw [fo j c c2, fo k d d2]; exact hjk
theorem Rl.nilx {Z : Bs} {β : List Addr} {F : Hp} {ρ : Rho} {S : Sto} (r : Rl K Z β F ρ S σ H) : Rl K Z β F (ρ ++ []) S (σ ++ []) H := by rw [List.append_nil, List.append_nil]; exact r
theorem par2_S {i j : Nat} {b1 b2 : Bool} {e1 e2 : E} {Q : List V → Hp → Prop} (h : tS K wx P fu (.par [(i, b1), (j, b2)] (.cons e1 (.cons e2 .nil))) D σ H)
    (hQ : ∀ v w H2, (∃ Z β F ρ' S', Rl K Z β F ρ' S' ((σ.set i (some v)).set j (some w)) H2 ∧ PwS K Z wx D F (.next ρ' S')) → Q [v, w] H2) : tCons (tX K wx P b1 e1) (tCons (tX K wx P b2 e2) tNil) σ H Q := by
  obtain ⟨Z, β, F, ρ, S, rl, h⟩ := h
  simp only [exS, List.map_cons, List.map_nil, evp] at h
  have hl := rl.len
  refine one_P (ρ2 := []) (σ2 := []) hl rl.nilx h fun s v β1 F1 S1 H1 r1 q1 => ?_
  rw [Fl.of_bind] at q1
  have q1' : PwS K Z wx D F1 (Fl.of ρ ((ev P e2 ρ S1).bind fun w S1 => (Res.lift S1 (ownS b2 w)).bind fun s S2 => (Res.ok [] S2).bind fun ss S3 => Res.ok (s :: ss) S3) fun a S => Fl.of ρ (Res.ok (s :: a) S) fun ss S1 => match setAll [i, j] ss ρ with
    | some ρ' => Fl.next ρ' S1
    | none => Fl.bad) := q1
  refine one_P hl r1 q1' fun t w β2 F2 S2 H2 r2 q2 => hQ v w H2 ?_
  have q2 : PwS K Z wx D F2 (match setAll [i, j] [s, t] ρ with
    | some ρ' => Fl.next ρ' S2
    | none => Fl.bad) := q2
  simp only [setAll] at q2
  by_cases c1 : i < ρ.length
  · rw [if_pos c1] at q2
    by_cases c2 : j < (ρ.set i s).length
    · rw [if_pos c2] at q2
      have r3 := Rl.put (ts := [t]) (ys := [some w]) r2 hl rfl c1
      have r4 := Rl.put (ts := []) (ys := []) r3 (by simp [hl]) rfl c2
      rw [List.append_nil, List.append_nil] at r4
      exact ⟨Z, β2, F2, _, S2, r4, q2⟩
    · rw [if_neg c2] at q2; exact q2.elim
  · rw [if_neg c1] at q2; exact q2.elim
theorem par3_S {i j l : Nat} {b1 b2 b3 : Bool} {e1 e2 e3 : E} {Q : List V → Hp → Prop} (h : tS K wx P fu (.par [(i, b1), (j, b2), (l, b3)] (.cons e1 (.cons e2 (.cons e3 .nil)))) D σ H)
    (hQ : ∀ v w z H2, (∃ Z β F ρ' S', Rl K Z β F ρ' S' (((σ.set i (some v)).set j (some w)).set l (some z)) H2 ∧ PwS K Z wx D F (.next ρ' S')) → Q [v, w, z] H2) : tCons (tX K wx P b1 e1) (tCons (tX K wx P b2 e2) (tCons (tX K wx P b3 e3) tNil)) σ H Q := by
  obtain ⟨Z, β, F, ρ, S, rl, h⟩ := h
  simp only [exS, List.map_cons, List.map_nil, evp] at h
  have hl := rl.len
  refine one_P (ρ2 := []) (σ2 := []) hl rl.nilx h fun s v β1 F1 S1 H1 r1 q1 => ?_
  rw [Fl.of_bind] at q1
  refine one_P hl r1 q1 fun t w β2 F2 S2 H2 r2 q2 => ?_
  rw [Fl.of_bind] at q2
  refine one_P hl r2 q2 fun u z β3 F3 S3 H3 r3 q3 => hQ v w z H3 ?_
  have q3 : PwS K Z wx D F3 (match setAll [i, j, l] [s, t, u] ρ with
    | some ρ' => Fl.next ρ' S3
    | none => Fl.bad) := q3
  simp only [setAll] at q3
  by_cases c1 : i < ρ.length
  · rw [if_pos c1] at q3
    by_cases c2 : j < (ρ.set i s).length
    · rw [if_pos c2] at q3
      by_cases c3 : l < ((ρ.set i s).set j t).length
      · rw [if_pos c3] at q3
        have r4 := Rl.put (ts := [t, u]) (ys := [some w, some z]) r3 hl rfl c1
        have r5 := Rl.put (ts := [u]) (ys := [some z]) r4 (by simp [hl]) rfl c2
        have r6 := Rl.put (ts := []) (ys := []) r5 (by simp [hl]) rfl c3
        rw [List.append_nil, List.append_nil] at r6
        exact ⟨Z, β3, F3, _, S3, r6, q3⟩
      · rw [if_neg c3] at q3; exact q3.elim
    · rw [if_neg c2] at q3; exact q3.elim
  · rw [if_neg c1] at q3; exact q3.elim
theorem par2_swap {i j : Nat} {b1 b2 : Bool} {e1 e2 : E} (h : tS K wx P fu (.par [(i, b1), (j, b2)] (.cons e1 (.cons e2 .nil))) D σ H) : tPar i j (tCons (tX K wx P b1 e1) (tCons (tX K wx P b2 e2) tNil)) D σ H :=
  par2_S h fun v w H2 ⟨Z, β, F, ρ', S', r, q⟩ => ⟨v, w, rfl, q β F _ H2 (Sub.refl F) r⟩
theorem par3_swap {i j l : Nat} {b1 b2 b3 : Bool} {e1 e2 e3 : E} (h : tS K wx P fu (.par [(i, b1), (j, b2), (l, b3)] (.cons e1 (.cons e2 (.cons e3 .nil)))) D σ H) : tPar3 i j l (tCons (tX K wx P b1 e1) (tCons (tX K wx P b2 e2) (tCons (tX K wx P b3 e3) tNil))) D σ H :=
  par3_S h fun v w z H2 ⟨Z, β, F, ρ', S', r, q⟩ => ⟨v, w, z, rfl, q β F _ H2 (Sub.refl F) r⟩
theorem par2_tup {i j : Nat} {b1 b2 : Bool} {e1 e2 : E} (h : tS K wx P fu (.par [(i, b1), (j, b2)] (.cons e1 (.cons e2 .nil))) D σ H) : tAsg (tTup (tCons (tX K wx P b1 e1) (tCons (tX K wx P b2 e2) tNil))) (gTup K 2 (gCons (gName i) (gCons (gName j) gNil))) D σ H := by
  unfold tAsg tTup
  exact par2_S h fun v w H2 ⟨Z, β, F, ρ', S', r, q⟩ => ⟨by show 2 ≤ sizeLine; rw [sizeLine_eq]; omega, fun p hp => ⟨p, [v, w], rfl, .inl (.inl upd_same), rfl, v, [w], rfl, w, [], rfl, rfl, q β F _ _ (Sub.refl F) (r.stray hp)⟩⟩
theorem par3_tup {i j l : Nat} {b1 b2 b3 : Bool} {e1 e2 e3 : E} (h : tS K wx P fu (.par [(i, b1), (j, b2), (l, b3)] (.cons e1 (.cons e2 (.cons e3 .nil)))) D σ H) : tAsg (tTup (tCons (tX K wx P b1 e1) (tCons (tX K wx P b2 e2) (tCons (tX K wx P b3 e3) tNil)))) (gTup K 3 (gCons (gName i) (gCons (gName j) (gCons (gName l) gNil)))) D σ H := by
  unfold tAsg tTup
  exact par3_S h fun v w z H2 ⟨Z, β, F, ρ', S', r, q⟩ => ⟨by show 3 ≤ sizeLine; rw [sizeLine_eq]; omega, fun p hp => ⟨p, [v, w, z], rfl, .inl (.inl upd_same), rfl, v, [w, z], rfl, w, [z], rfl, z, [], rfl, rfl, q β F _ _ (Sub.refl F) (r.stray hp)⟩⟩
end
end FO

set_option Elab.async false
set_option linter.all false
set_option maxHeartbeats 1000000
namespace FO
open PySem PySem.Spec L2
/-! ### try, with the exception kept by a name -/
/-- a caught exception of a class -/
def xK (cls : Value) (a : Addr) : HO := .ext fun h => ∃ (oe : Obj) (vs : Array Value), h.get? a = some oe ∧ Zc cls none oe ∧ oe.data = .fields vs
theorem Inv.adopt {X : Cx} {pins : List (Addr × Obj)} {σ : L2.St} {H : Hp} {s : Shared} {a : Addr} {o : HO} (I : Inv X pins σ H s) (h0 : X.s_0.heap.get? a = none) (na : H a = none) (nL : a ≠ X.env.locals) (nC : ∀ x c, X.env.cells.lookup x = some c → c ≠ a) (nP : ∀ p ∈ X.pn ++ pins, p.1 ≠ a)
    (new : ObjOk X.prog X.w (upd H a o) s.heap a o) : Inv X pins σ (upd H a o) s := by
  have e0 : ∀ b u, X.s_0.heap.get? b = some u → b ≠ a := fun b u e z => by subst z; rw [h0] at e; cases e
  have e1 : ∀ b u, H b = some u → b ≠ a := fun b u e z => by subst z; rw [na] at e; cases e
  refine ⟨I.ok, I.os, I.bare, ⟨fun b u e n f x => I.base.keep b u e n f x, fun b u e n f x => I.base.slot b u e n f x, fun b u e n x => ?_, I.base.there, fun b xs e => ?_, fun b u xs e => ?_, fun b ps e => ?_⟩, I.loc, I.cell, ?_, fun x c e => ?_, fun p hp => ?_, fun b u e => ?_, I.len⟩
  · rw [upd_ne (e0 b u e)]; exact I.base.free b u e n x
  · have := I.base.tups b xs e
    rw [upd_ne (e1 b _ this)]; exact this
  · have := I.base.frzs b u xs e
    rw [upd_ne (e1 b _ this)]; exact this
  · obtain ⟨more, q⟩ := I.base.tbls b ps e
    exact ⟨more, by rw [upd_ne (e1 b _ q)]; exact q⟩
  · rw [upd_ne (Ne.symm nL)]; exact I.free
  · rw [upd_ne (nC x c e)]; exact I.freeC x c e
  · obtain ⟨q1, q2, q3⟩ := I.pin p hp
    exact ⟨q1, by rw [upd_ne (nP p hp)]; exact q2, q3⟩
  · by_cases c : b = a
    · subst c
      rw [upd_same] at e
      cases e
      exact new
    · rw [upd_ne c] at e
      exact (I.hok b u e).stay (fun _ _ _ q => q) (fun x q => (by rw [upd_ne (e1 _ _ q)]; exact q)) fun x y q => (by first | (rw [upd_ne (e1 _ _ q)]; exact q) | exact q)
def wKeep (K : PySem.W.Frag) (c : Value) (i j : Nat) (Wout : WX) (D : Ends) : WX := fun cls d σ H =>
  ∃ b, PySem.W.exmOne K cls c = some b ∧ (b = true → d = none ∧ ∀ a, H a = none → D.nx (((σ.set i (some (.ref a))).set j (some (.ref a))).set i none) (upd H a (xK cls a))) ∧ (b = false → Wout cls d σ H)
section
variable {X : Cx} {x n y : Str} {c : Value} {i j : Nat} {body : List Stmt} {np pos pos' py pn' pa : Pos} {tb : WX → TS} {Wout : WX}
theorem ps_try_keep (hs : X.stack = X.env :: X.outer) (hf : X.env.frame = some X.env.locals) (hex : X.ex = []) (hN : X.N.Nodup) (hi : X.N[i]? = some n) (hj : X.N[j]? = some y) (hij : i ≠ j) (hln : X.env.kindOf n = some .local) (hly : Loc X.env.scope y) (hfy : X.fn y = true ∨ X.env.scope.names.lookup y = some .local)
    (hd1 : (n == ("__debug__" : Str)) = false) (hd2 : (n == ("__classdict__" : Str)) = false) (hc : Names X x c) (tk : Takes X Wout)
    (hb : ∀ (W : WX) (pn : List (Addr × Obj)) (xe : Value → Shared → Prop), Takes (X.tr pn xe) W → PassesOwn (model X.prog X.w) X.A X.env xe → PSs (X.tr pn xe) body (tb W)) :
    PS X (.Try body [.ExceptHandler (some (.Name x np)) (some n) [.Assign [.Name y py] (.Name n pn') pa] pos'] [] [] pos) (fun D σ H => tb (wKeep X.K c i j Wout D) D σ H) := by
  refine ⟨fun pins s σ H D I h => ?_⟩
  have ok := I.ok
  have hfr : X.A.frames = some (X.env :: X.outer) := by rw [ok.frames, hs]
  have hloc : Loc X.env.scope n := .inl hln
  refine wpAny_Try_except ?_
  refine wpAny_mono ((hb (wKeep X.K c i j Wout D) (X.pn ++ pins) (fun e s₁ => wpAny (model X.prog X.w) X.A (noteFrame e X.env) (fun _ s₂ => wpAny (model X.prog X.w) X.A (setFlight e none) (fun _ s₃ =>
    wpAny (model X.prog X.w) X.A (handleBy e X.env [.ExceptHandler (some (.Name x np)) (some n) [.Assign [.Name y py] (.Name n pn') pa] pos']) (SP X pins D) X.xe s₃) X.xe s₂) X.xe s₁) (fun u s' xx => ?_) PassesOwn.looking).run [] s σ H D (I.toTry _) h) (fun f s1 hsp => ?_) (fun e s1 he => he)
  · obtain ⟨a, B, sI, pins', σ', H', cls, d, rfl, J', nb, up, sky, na, os, ag, b, hb1, hyes, hno⟩ := xx
    have J : Inv X pins σ' H' sI := J'.ofTry ok
    have sky' : Sky B (X.env :: X.outer) a (Zc cls d) X.env.locals s'.heap := by rw [← hs]; exact sky
    show wpAny (model X.prog X.w) X.A (noteFrame (.ref a) X.env) _ _ _
    refine Sky.land Zc.steady hfr hf sky' fun h3 fl3 up3 => ?_
    have J3 : Inv X pins σ' H' { s' with heap := h3 } := J.landed nb fl3.1 (up.trans up3) os ag
    obtain ⟨oe3, vs3, he3, hz3, hd3⟩ := fl3.there
    have notFr : ∀ {h : Heap} {o : Obj} {vs : Array Value}, h.FunFrames B (X.env :: X.outer) → h.get? a = some o → o.data = .fields vs → a ∉ frs (X.env :: X.outer) := fun {h o vs} ff e dd hm => by
      obtain ⟨_, o', e', hnf⟩ := ff.mem hm
      rw [e] at e'; cases e'
      exact hnf _ dd
    have nfr := notFr fl3.2.2.1 he3 hd3
    have nL : a ≠ X.env.locals := fun z => nfr (List.mem_filterMap.mpr ⟨X.env, List.mem_cons_self, by rw [hf, z]⟩)
    have nF : a ∉ X.fs := fun hm => by
      obtain ⟨e, he, q⟩ := List.mem_filterMap.mp hm
      exact nfr (List.mem_filterMap.mpr ⟨e, List.mem_cons_of_mem _ he, q⟩)
    have nI : sI.heap.get? a = none := by
      cases q : sI.heap.get? a with
      | none => rfl
      | some o =>
        have := nb a o q (by rw [hs]; exact nfr)
        rw [fl3.2.1] at this; cases this
    have n0 : X.s_0.heap.get? a = none := by
      cases q : X.s_0.heap.get? a with
      | none => rfl
      | some o =>
        obtain ⟨o', e⟩ := J.base.there a o q (by rw [hex]; exact List.not_mem_nil)
        rw [nI] at e; cases e
    have nC : ∀ z c, X.env.cells.lookup z = some c → c ≠ a := fun z c e q => by
      obtain ⟨v, o, e1, _⟩ := J.cell z c e
      rw [q, nI] at e1; cases e1
    have nP : ∀ p ∈ X.pn ++ pins, p.1 ≠ a := fun p hp q => by
      have := (J.pin p hp).1
      rw [q, nI] at this; cases this
    have S3 := J3.suite he3 hd3 na nL nF
    refine wpAny_handleBy_cons (codeAny_handlers_test ?_) (by intro q; cases q)
    have LT : PySem.W.Looks (model X.prog X.w) h3 (typeOf (.ref a)) cls := fun A Q E s k q => wpAny_typeOf_ref (k _ _ he3) (by rw [hz3.1]; exact q)
    have LM := PySem.W.exm_one (M := model X.prog X.w) (J3.kIn) LT hb1
    have test : ∀ {Q : Value → Shared → Prop} {E : Value → Shared → Prop}, Q c { s' with heap := h3 } → wpAny (model X.prog X.w) (X.A.mark (some (.ref a))) (eval (.Name x np) X.env) Q E { s' with heap := h3 } := fun {Q E} q => by
      obtain ⟨hg, hdbg, hm | ⟨hm, hv, hnn⟩⟩ := hc
      · exact ld_glob (X := X.suite a ((a, oe3) :: (X.pn ++ pins))) S3 hg hm q hdbg
      · exact ld_blt (X := X.suite a ((a, oe3) :: (X.pn ++ pins))) S3 hg hm hv q hnn hdbg
    refine test (LM.here ?_)
    cases b with
    | true =>
      obtain ⟨rfl, hy2⟩ := hyes rfl
      refine codeAny_handlers_suite_as ?_
      refine HandSPX.lands_againZ fl3 fun h4 fl4 up4 => ?_
      have J4 : Inv X pins σ' H' { s' with heap := h4 } := J.landed nb fl4.1 ((up.trans up3).trans up4) os ag
      obtain ⟨oe4, vs4, he4, hz4, hd4⟩ := fl4.there
      have S4 := J4.suite he4 hd4 na nL nF
      refine store_ok (X := X.suite a ((a, oe4) :: (X.pn ++ pins))) (v := .ref a) S4 hN hi hloc rfl (fun s5 S5 => ?_) (.inr hln)
      have hlt : i < σ'.length := by rw [J.len]; exact (List.getElem?_eq_some_iff.mp hi).1
      have suite : PSs (X.suite a ((a, oe4) :: (X.pn ++ pins))) [.Assign [.Name y py] (.Name n pn') pa] (tSeq (tAsg (tVar i) (gName j)) tNext) := pss_cons (ps_set (X := X.suite a ((a, oe4) :: (X.pn ++ pins))) hN hj hly (pe_var (X := X.suite a ((a, oe4) :: (X.pn ++ pins))) hi (.inl hln) hd1 hd2) rfl hfy) pss_nil
      refine wpAny_mono (suite.run [] s5 (σ'.set i (some (.ref a))) H' { nx := fun σ6 H6 => σ6 = (σ'.set i (some (.ref a))).set j (some (.ref a)) ∧ H6 = H', rt := fun _ _ => False, bk := fun _ _ => False, ct := fun _ _ => False } S5 ⟨.ref a, by rw [List.getElem?_set_self hlt], rfl, rfl⟩) (fun f s6 hsp => ?_) (fun _ _ z => False.elim z)
      cases f with
      | next =>
        obtain ⟨σ6, H6, S6, rfl, rfl⟩ := hsp
        refine gone_ok (X := X.suite a ((a, oe4) :: (X.pn ++ pins))) S6 hN hi hln fun s7 J7 => ⟨_, _, ?_, hy2 a na⟩
        have hp := J7.pin (a, oe4) (List.mem_append_left _ List.mem_cons_self)
        exact Inv.adopt (J7.unsuite ok) n0 na nL nC nP ⟨⟨oe4, vs4, hp.1, hz4, hd4⟩, ⟨oe4, hp.1⟩, fun h1 h2 ⟨o, v, e1, e2, e3⟩ k => ⟨o, v, k _ e1, e2, e3⟩⟩
      | brk => obtain ⟨_, _, _, z⟩ := hsp; exact z.elim
      | cont => obtain ⟨_, _, _, z⟩ := hsp; exact z.elim
      | ret u => obtain ⟨_, _, _, _, _, z⟩ := hsp; exact z.elim
    | false =>
      show wpAny _ X.A (handleBy (.ref a) X.env []) _ _ _
      refine wpAny_handleBy_nil ?_
      obtain ⟨k1, k2, k3, oe, vs, T, oT, ts', he, hz, hd, h1, hr⟩ := id fl3
      unfold PySem.passOn
      refine wpAny_bind (wpAny_field he hd h1 ?_)
      rw [if_neg (show ¬ ((Value.ref T == Value.none) = true) from by simp)]
      have fin : wpAny (model X.prog X.w) X.A (setFlight (.ref a) X.env.frame) (fun _ s4 => wpAny (model X.prog X.w) X.A (throw (.ref a) : Sem Flow) (SP X pins D) X.xe s4) X.xe { s' with heap := h3 } := by
        rw [hf]
        refine HandSPX.setFlight_upZ fl3 fun h4 hh4 up4 => wpAny_throw (tk _ _ ?_)
        exact ⟨a, B, sI, pins, σ', H', cls, d, rfl, J, nb, (up.trans up3).trans up4, .inr (.inr (by rw [hs]; exact hh4)), na, os, ag, hno rfl⟩
      first
        | exact wpAny_bind (wpAny_pure (wpAny_bind fin))
        | exact wpAny_bind fin
  · cases f with
    | next =>
      obtain ⟨σ', H', J', q⟩ := hsp
      exact wpAny_execs_nil ⟨σ', H', J'.ofTry ok, q⟩
    | brk =>
      obtain ⟨σ', H', J', q⟩ := hsp
      exact ⟨σ', H', J'.ofTry ok, q⟩
    | cont =>
      obtain ⟨σ', H', J', q⟩ := hsp
      exact ⟨σ', H', J'.ofTry ok, q⟩
    | ret u =>
      obtain ⟨v, σ', H', J', r, q⟩ := hsp
      exact ⟨v, σ', H', J'.ofTry ok, r, q⟩
theorem set_twice {α : Type} {l : List α} {i j : Nat} {x y z : α} (h : i ≠ j) : ((l.set i x).set j y).set i z = (l.set j y).set i z := by
  apply List.ext_getElem?
  intro k
  by_cases c : k = i
  · subst c
    by_cases hk : k < l.length
    · rw [List.getElem?_set_self (by simpa using hk), List.getElem?_set_self (by simpa using hk)]
    · rw [List.getElem?_eq_none (by simpa using hk), List.getElem?_eq_none (by simpa using hk)]
  · rw [List.getElem?_set_ne (Ne.symm c), List.getElem?_set_ne (Ne.symm c)]
    by_cases c2 : k = j
    · subst c2
      by_cases hk : k < l.length
      · rw [List.getElem?_set_self (by simpa using hk), List.getElem?_set_self hk]
      · rw [List.getElem?_eq_none (by simpa using hk), List.getElem?_eq_none (by simpa using hk)]
    · rw [List.getElem?_set_ne (Ne.symm c2), List.getElem?_set_ne (Ne.symm c2), List.getElem?_set_ne (Ne.symm c)]
theorem try_S {K : Kw} {wx : Wx} {P : Pg} {fu : Nat} {D : Ends} {σ : L2.St} {H : Hp} {cls : Nat → Value} {b : Sms} {c : Nat} {Wc : WX} (hij : i ≠ j) (hc8 : c < 8) (hw : ∀ c σ H, wx c σ H → Wc (cls c) none σ H) (hcl : ∀ k, k < 8 → cls k = .ref (exA K.K k)) (hm : ∀ k, k < 8 → PySem.W.exmOne K.K (cls k) (cls c) = some (exSub k c))
    (h : tS K wx P fu (.try_ b c i j) D σ H) : tSs K (fun k σ H => wKeep K.K (cls c) i j Wc D (cls k) none σ H) P fu b D σ H := by
  obtain ⟨Z, β, F, ρ, S, rl, h⟩ := h
  simp only [exS] at h
  refine ⟨Z, β, F, ρ, S, rl, ?_⟩
  cases e : exSs P fu b ρ S with
  | next ρ' S' => rw [e] at h; exact h
  | ret w S' => rw [e] at h; exact h
  | bad => rw [e] at h; exact h
  | ex k ρ1 S1 =>
    rw [e] at h
    dsimp only at h
    intro β' F' σ' H' sub rl1
    by_cases c8 : (Nat.blt k 8 && Nat.blt c 8) = true
    · rw [if_pos c8] at h
      have k8 : k < 8 := Nat.le_of_ble_eq_true (Bool.and_eq_true_iff.mp c8).1
      refine ⟨exSub k c, hm k k8, fun ht => ⟨rfl, fun a na => ?_⟩, fun hf => ?_⟩
      · rw [if_pos ht] at h
        by_cases hl : i < ρ1.length ∧ j < ρ1.length
        · rw [if_pos hl] at h
          have ex : xK (cls k) a = xE K.K k a := by rw [hcl k k8]; rfl
          rw [ex, set_twice hij]
          have n : Nw F' H' (upd F' a (xE K.K k a)) (upd H' a (xE K.K k a)) := Nw.new rl1.fh na
          refine h _ _ _ _ (sub.trans n.ff) (((rl1.nw n).set hl.2 (w := .exc k) ⟨a, upd_same, rfl⟩).unset i)
        · rw [if_neg hl] at h; exact h.elim
      · rw [if_neg (by rw [hf]; exact Bool.false_ne_true)] at h
        exact hw _ _ _ (h β' F' σ' H' sub rl1)
    · rw [if_neg c8] at h; exact h.elim
end
end FO

set_option Elab.async false
set_option linter.all false
set_option maxHeartbeats 2000000
set_option maxRecDepth 10000
namespace FO
open PySem PySem.Spec L2
/-! ### statements, read into the IR -/
structure Dx where
  mu : List Nat
  fz : List (Nat × Nat)
  cl : Bool
  nf : List Str
  tm : Bool
def isComp : Expr → Bool
  | .ListComp _ _ _ _ => true
  | .SetComp _ _ _ _ => true
  | .DictComp _ _ _ _ _ => true
  | _ => false
def isTup : Expr → Bool
  | .Tuple _ _ _ => true
  | _ => false
/-- how a tuple of names takes a tuple's values: from the right, or by the tuple; or the text is not covered -/
def swK (sc : Scope) (ns : List (Str × Pos)) (vs : List Expr) : Option Bool :=
  if ns.all (fun p => sc.names.lookup p.1 == some .local && p.2.line == ((ns.head?).map (·.2.line)).getD 0) then (if vs.all (foldedForSure 8) then some false else if vs.all (constantsAlone 8) then none else some true) else some false
/-- a comprehension's value goes to its name within the block -/
def swC (sc : Scope) (x : Str) (px : Pos) : Expr → Bool
  | .ListComp _ _ scope pos => sc.names.lookup x == some .local && px.line == pos.line && !(scope.names.any fun (n, k) => n == x && (k == .local || k == .cell))
  | _ => false
def augOk : BinO → Bool
  | .add => true
  | .sub => true
  | _ => false
def wrapF (l : List (Nat × Nat)) (line : Nat) (s : Sm) : Sm := (l.filter fun p => p.1 == line).foldr (fun p s => .frz p.2 s) s
section
variable (sx : Sx) (N : List Str) (dx : Dx)
def cN : Nat → Scope → Expr → Option E
  | 0, _, _ => none
  | n + 1, sc, e => match e with
    | .List es _ => (cEs sx N n sc es).map .lst
    | .IfExp t a b _ => (cE sx N n sc t).bind fun x => (cN n sc a).bind fun y => (cN n sc b).map fun z => .ife x y z
    | .Call (.Name f _) [a] [] _ => if f = "list" ∧ glB (sc.names.lookup f) = true then (cE sx N n sc a).map fun x => .bi .list x else none
    | _ => none
def cX (n : Nat) (sc : Scope) (i : Nat) (e : Expr) : Option (Bool × E) :=
  if dx.mu.contains i then (match cN sx N n sc e with
    | some x => some (true, x)
    | none => (cE sx N n sc e).map fun x => (false, x)) else (cE sx N n sc e).map fun x => (false, x)
def lsl (sc : Scope) (x : Str) : Option Nat := if locB (sc.names.lookup x) then slotOf N x else none
mutual
def cS : Nat → Scope → Stmt → Option Sm
  | 0, _, _ => none
  | n + 1, sc, st => match st with
    | .Assign [.Name x px] e _ => (lsl N sc x).bind fun i => if isComp e then (if sc.kind == .function then (cE sx N n sc e).map fun y => .asg (.nm i) y else none)
        else (cX sx N dx n sc i e).map fun p => if p.1 then .own i p.2 else .asg (.nm i) p.2
    | .Assign [.Tuple [.Name x px, .Name y py] k p] (.Tuple [a, b] k2 p2) _ => (lsl N sc x).bind fun i => (lsl N sc y).bind fun j => if i = j then none else (swK sc [(x, px), (y, py)] [a, b]).bind fun _ => if isStar a || isStar b then none else
        (cX sx N dx n sc i a).bind fun u => (cX sx N dx n sc j b).map fun v => .par [(i, u.1), (j, v.1)] (.cons u.2 (.cons v.2 .nil))
    | .Assign [.Tuple [.Name x px, .Name y py, .Name z pz] k p] (.Tuple [a, b, c] k2 p2) _ => (lsl N sc x).bind fun i => (lsl N sc y).bind fun j => (lsl N sc z).bind fun l => if i = j ∨ i = l ∨ j = l then none else (swK sc [(x, px), (y, py), (z, pz)] [a, b, c]).bind fun _ =>
        if isStar a || isStar b || isStar c then none else
        (cX sx N dx n sc i a).bind fun u => (cX sx N dx n sc j b).bind fun v => (cX sx N dx n sc l c).map fun w => .par [(i, u.1), (j, v.1), (l, w.1)] (.cons u.2 (.cons v.2 (.cons w.2 .nil)))
    | .Assign [.Tuple ts k p] e _ => if isTup e || isComp e then none else (cTg N n (.Tuple ts k p)).bind fun t => if (tgNames N t).all fun x => locB (sc.names.lookup x) then (cE sx N n sc e).map fun y => .asg t y else none
    | .Assign [.Subscript o i p] e _ => if isSlice i then none else (cE sx N n sc o).bind fun x => (cE sx N n sc i).bind fun y => (cE sx N n sc e).map fun z => .setix x y z
    | .Assign [.Attribute o f p] e _ => if isComp e || isSup o then none else (sx.flds.lookup f).bind fun c => (cE sx N n sc o).bind fun x => if dx.nf.contains f then (cN sx N n sc e).map fun y => .setf c x f (.newL y) else (cE sx N n sc e).map fun y => .setf c x f y
    | .AugAssign (.Name x _) op e _ => (lsl N sc x).bind fun i => (binOf op).bind fun o => if augOk o then (cE sx N n sc e).map fun y => .aug i o y else none
    | .Expr (.Call (.Attribute (.Name x px) m ap) [a] [] p) _ => if m = "append" then (if m = "append" ∧ (ap.endLine == p.line) = true ∧ visB (sc.names.lookup x) = true ∧ ¬ (x = "__debug__" ∨ x = "__classdict__") then (slotOf N x).bind fun i => (cE sx N n sc a).map fun y => .app i y else none) else (cE sx N n sc (.Call (.Attribute (.Name x px) m ap) [a] [] p)).map .expr
    | .Expr (.Call (.Attribute (.Attribute o f fp) m ap) [a] [] p) _ => if m = "append" then (if m = "append" ∧ (ap.endLine == p.line) = true then (cE sx N n sc (.Attribute o f fp)).bind fun x => (cE sx N n sc a).map fun y => .appE x y else none) else (cE sx N n sc (.Call (.Attribute (.Attribute o f fp) m ap) [a] [] p)).map .expr
    | .Expr e _ => if isComp e then none else (cE sx N n sc e).map .expr
    | .Return (some e) _ => if dx.cl then (match e with
        | .List [a, b] _ => if isStar a || isStar b then none else (cN sx N n sc a).bind fun x => (cE sx N n sc b).map fun y => .ret (.newW (.cons (.newL x) (.cons y .nil)))
        | .ListComp elt [⟨tg, it, [], 0⟩] scope p => (cE sx N n sc (.ListComp elt [⟨tg, it, [], 0⟩] scope p)).map fun y => .ret (.newL y)
        | _ => none) else (cE sx N n sc e).map .ret
    | .If c a b _ => (cE sx N n sc c).bind fun x => (cSs n sc a).bind fun y => (cSs n sc b).map fun z => .iff x y z
    | .For tg it b [] _ => (cTg N n tg).bind fun t => if (tgNames N t).all fun x => locB (sc.names.lookup x) then (cI sx N n sc it).bind fun i => if enumOk tg i then (cSs n sc b).map fun y => .for_ t i y else none else none
    | .While c b [] _ => (cE sx N n sc c).bind fun x => (cSs n sc b).map fun y => .while_ x y
    | .Raise (some (.Call (.Name x _) [.Constant (.str _) _ _] [] _)) none _ => if glB (sc.names.lookup x) = true ∧ (x == ("" : Str)) = false then (slotOf sx.exs x).map .raise else none
    | .Pass _ => some .pass
    | .Try b [.ExceptHandler (some (.Name x _)) (some m) [.Assign [.Name y _] (.Name m2 _) _] _] [] [] _ => if sx.full && (m2 == m && glB (sc.names.lookup x) && (sc.names.lookup m == some .local) && !(m == "__debug__") && !(m == "__classdict__") && !(x == "__debug__")) then
        (slotOf sx.exs x).bind fun c => (slotOf N m).bind fun i => (lsl N sc y).bind fun j => if i = j then none else (cSs n sc b).map fun z => .try_ z c i j else none
    | _ => none
def cSs : Nat → Scope → List Stmt → Option Sms
  | 0, _, _ => none
  | _ + 1, _, [] => some .nil
  | n + 1, sc, s :: r => (cS n sc s).bind fun x => (cSs n sc r).map fun y => .cons (wrapF dx.fz s.pos.line x) y
end
end
/-- a def's body: more of its context -/
structure GoodS (sx : Sx) (P : Pg) (N : List Str) (sc : Scope) (wx : Wx) (cls : Nat → Value) (X : Cx) : Prop extends Good sx P N sc wx cls X where
  hsc : X.env.scope = sc
  hfn : ∀ x, X.fn x = true
  hk : sc.kind = .function
  own : PassesOwn (model X.prog X.w) X.A X.env X.xe
  hst : X.stack = X.env :: X.outer
  hfr : X.env.frame = some X.env.locals
  hex : X.ex = []
  exm : sx.full = true → ∀ k c, k < 8 → c < 8 → PySem.W.exmOne X.K (cls k) (cls c) = some (exSub k c)
  exs : ∀ (pn : List (Addr × Obj)) (xe : Value → Shared → Prop) (c : Nat) (x m : Str) (j : Nat) (p p2 pos : Pos), sx.exs[c]? = some x → (x == ("" : Str)) = false → Gl X x → PMk (X.tr pn xe) (.Call (.Name x p) [.Constant (.str m) j p2] [] pos) (fun _ H Q => Q (cls c) none H)
section
variable {sx : Sx} {P : Pg} {N : List Str} {cls : Nat → Value} {sc : Scope} {wx : Wx} {X : Cx} {dx : Dx} {fu n : Nat}
theorem GoodS.tr (g : GoodS sx P N sc wx cls X) {pn : List (Addr × Obj)} {xe : Value → Shared → Prop} {W : WX} (tk : Takes (X.tr pn xe) W) (own : PassesOwn (model X.prog X.w) X.A X.env xe) : GoodS sx P N sc (fun c σ H => W (cls c) none σ H) cls (X.tr pn xe) where
  hN := g.hN
  nd := g.nd
  calm := g.calm
  hu := g.hu
  vis := g.vis
  gl := g.gl
  cf := g.cf
  tk := ⟨W, tk, fun _ _ _ h => h⟩
  free := g.free
  gcs := g.gcs
  exg := g.exg
  exi := g.exi
  flds := g.flds
  mks := g.mks
  mts := g.mts
  lens := g.lens
  fns := g.fns
  hsc := g.hsc
  hfn := g.hfn
  hk := g.hk
  own := own
  hst := g.hst
  hfr := g.hfr
  hex := g.hex
  exm := g.exm
  exs := fun pn xe => g.exs pn xe
theorem GoodS.loc (g : GoodS sx P N sc wx cls X) {x : Str} (h : locB (sc.names.lookup x) = true) : LocOk X x := by
  refine ⟨?_, .inl (g.hfn x)⟩
  rw [g.hsc]
  cases q : sc.names.lookup x with
  | none => rw [q] at h; cases h
  | some k =>
    cases k with
    | «local» => exact .inl q
    | cell => exact .inr q
    | _ => rw [q] at h; cases h
theorem lsl_ok {x : Str} {i : Nat} (h : lsl N sc x = some i) : locB (sc.names.lookup x) = true ∧ N[i]? = some x := by
  unfold lsl at h
  rcases ite_of h with ⟨h1, h⟩ | ⟨_, h⟩
  · exact ⟨h1, slotOf_ok h⟩
  · cases h
theorem GoodS.block (g : GoodS sx P N sc wx cls X) : X.env.blockKind = .function := by
  unfold Env.blockKind
  rw [g.hsc, g.hk]; rfl
theorem sw_no {e : Expr} {t : Option Expr} {l : Nat} {env : Env} (h : isComp e = false) : swapsWith e t l env = pure false := by
  cases e <;> first | rfl | (cases h)
theorem sw_comp (g : GoodS sx P N sc wx cls X) {elt : Expr} {gs : List Comprehension} {scope : Scope} {pos px : Pos} {x : Str} {l : Nat} : swapsWith (.ListComp elt gs scope pos) (some (.Name x px)) l X.env = pure (swC sc x px (.ListComp elt gs scope pos)) := by
  have hb := g.block
  have ky : X.env.kindOf x = sc.names.lookup x := by show X.env.scope.names.lookup x = _; rw [g.hsc]
  unfold swapsWith swC
  simp only [hb, ky, Expr.pos]
  rfl
theorem pe_N (iE : AllE sx P N cls n) (ia : AllA sx P N cls n) (g : Good sx P N sc wx cls X) (ih : ∀ e ie, cN sx N n sc e = some ie → PE X e (tN (kx X) wx P ie)) : ∀ e ie, cN sx N (n + 1) sc e = some ie → PE X e (tN (kx X) wx P ie) := by
  intro e ie h
  unfold cN at h
  split at h
  · obtain ⟨ies, h1, rfl⟩ := map_of h
    exact PE.imp (pe_lst (ia sc wx X g _ ies h1).pa) fun σ H Q q => lst_N q
  · obtain ⟨x, h1, h⟩ := bind_of h
    obtain ⟨y, h2, h⟩ := bind_of h
    obtain ⟨z, h3, rfl⟩ := map_of h
    exact PE.imp (pe_ifExp (iE sc wx X g _ x h1).pt (ih _ y h2) (ih _ z h3)) fun σ H Q q => ife_N q
  · rename_i f p a pos
    rcases ite_of h with ⟨⟨hf, hgl⟩, hh⟩ | ⟨_, h⟩
    · subst hf
      obtain ⟨x, h1, rfl⟩ := map_of hh
      have st := star_not (es := []) (env := X.env) (cE_star h1)
      refine PE.imp (pe_callTy (call_listN g.calm) (g.gl _ hgl) (g.free _ (by decide +kernel)) (by decide +kernel) (pa_cons (iE sc wx X g a x h1).pa pa_nil st) (by decide) (by decide) st rfl) fun σ H Q q => ?_
      obtain ⟨Z, β, F, ρ, S, rl, q⟩ := q
      simp only [ev] at q
      refine ⟨Z, β, F, ρ, S, rl, (Pw.bind (f := fun w S => Res.lift S (((vw S w).bind (biD .list)).map W.d)) q).mono fun w β1 F1 S1 H1 u1 rl1 ⟨_, _, h1⟩ v rv => ?_⟩
      obtain ⟨r, er, k⟩ := Pw.lift h1 rl1
      obtain ⟨d, e1, e2⟩ := Option.bind_eq_some_iff.mp er
      obtain ⟨xs, ex, k2⟩ := k F1 H1 (Nw.refl rl1.fh)
      injection ex with ex
      subst ex
      exact ⟨F1, v, d, xs, rfl, rl1.fh, repA_ra rv rl1 e1, e2, fun us hd p hp => k2 p us hp hd⟩
    · cases h
  · cases h
theorem all_N (g : Good sx P N sc wx cls X) : ∀ n e ie, cN sx N n sc e = some ie → PE X e (tN (kx X) wx P ie)
  | 0 => fun e ie h => by unfold cN at h; cases h
  | n + 1 => pe_N (snd_all n).1 (snd_all n).2.1 g (all_N g n)
theorem all_X (g : Good sx P N sc wx cls X) {i : Nat} {e : Expr} {b : Bool} {ie : E} (h : cX sx N dx n sc i e = some (b, ie)) : PE X e (tX (kx X) wx P b ie) := by
  have ce : ∀ {b : Bool}, (cE sx N n sc e).map (fun x => (false, x)) = some (b, ie) → PE X e (tX (kx X) wx P b ie) := fun {b} h => by
    obtain ⟨x, h1, h2⟩ := map_of h
    cases h2
    exact ((snd_all n).1 sc wx X g e _ h1).pe
  unfold cX at h
  rcases ite_of h with ⟨_, h⟩ | ⟨_, h⟩
  · split at h
    · rename_i x hx
      cases h
      exact all_N g n e _ hx
    · exact ce h
  · exact ce h
theorem sw_all {env : Env} {sc : Scope} (hk : env.blockKind = .function) (kind : ∀ z, env.kindOf z = sc.names.lookup z) {x y : Str} {px py pt p2 : Pos} {a b : Expr} {kt k2 : Nat} {r : Bool} (hxy : x ≠ y) (ha : isStar a = false) (hb : isStar b = false) (h : swK sc [(x, px), (y, py)] [a, b] = some r) :
    swappedStores [.Tuple [.Name x px, .Name y py] kt pt] (.Tuple [a, b] k2 p2) env = pure (if r = true then some [x, y] else none) := by
  have st : ∀ e : Expr, (match e with | .Starred .. => true | _ => false) = isStar e := fun e => by cases e <;> rfl
  unfold swappedStores
  dsimp only
  simp only [hk, List.length_cons, List.length_nil, List.any_cons, List.any_nil, st, ha, hb, List.head?_cons, Option.map_some, Option.getD_some, Expr.pos]
  simp only [List.filterMap_cons, List.filterMap_nil, kind]
  unfold swK at h
  simp only [List.all_cons, List.all_nil, Bool.and_true, List.head?_cons, Option.map_some, Option.getD_some] at h
  cases c1 : (sc.names.lookup x == some NameKind.local && px.line == px.line) <;> cases c2 : (sc.names.lookup y == some NameKind.local && py.line == px.line)
  · simp [c1, c2] at h ⊢
    rw [h]; rfl
  · have c1' : ¬ sc.names.lookup x = some .local := by simpa using c1
    simp [c1, c2] at h ⊢
    rw [if_neg c1'] at h
    cases h; rfl
  · simp [c1, c2] at h ⊢
    rw [h]; rfl
  · have ed : [x, y].eraseDups.length = 2 := by simp [List.eraseDups_cons, hxy, Ne.symm hxy]
    simp only [c1, c2, Bool.and_self, if_true, if_pos] at h
    simp only [c1, c2, if_true]
    cases c3 : (foldedForSure 8 a && foldedForSure 8 b)
    · cases c4 : (constantsAlone 8 a && constantsAlone 8 b)
      · rw [c3, c4] at h
        cases h
        simp [ed, c3, c4]
        intro hh
        exfalso
        rcases hh with hh | hh
        · cases a <;> first | (cases hh; done) | (cases ha; done)
        · cases b <;> first | (cases hh; done) | (cases hb; done)
      · rw [c3, c4] at h
        cases h
    · rw [c3] at h
      cases h
      simp [ed, c3]
theorem sw_all3 {env : Env} {sc : Scope} (hk : env.blockKind = .function) (kind : ∀ z, env.kindOf z = sc.names.lookup z) {x y z : Str} {px py pz pt p2 : Pos} {a b c : Expr} {kt k2 : Nat} {r : Bool} (hxy : x ≠ y) (hxz : x ≠ z) (hyz : y ≠ z) (ha : isStar a = false) (hb : isStar b = false) (hc : isStar c = false) (h : swK sc [(x, px), (y, py), (z, pz)] [a, b, c] = some r) :
    swappedStores [.Tuple [.Name x px, .Name y py, .Name z pz] kt pt] (.Tuple [a, b, c] k2 p2) env = pure (if r = true then some [x, y, z] else none) := by
  have st : ∀ e : Expr, (match e with | .Starred .. => true | _ => false) = isStar e := fun e => by cases e <;> rfl
  unfold swappedStores
  dsimp only
  simp only [hk, List.length_cons, List.length_nil, List.any_cons, List.any_nil, st, ha, hb, hc, List.head?_cons, Option.map_some, Option.getD_some, Expr.pos]
  simp only [List.filterMap_cons, List.filterMap_nil, kind]
  unfold swK at h
  simp only [List.all_cons, List.all_nil, Bool.and_true, List.head?_cons, Option.map_some, Option.getD_some] at h
  cases c1 : (sc.names.lookup x == some NameKind.local && px.line == px.line) <;> cases c2 : (sc.names.lookup y == some NameKind.local && py.line == px.line) <;> cases c0 : (sc.names.lookup z == some NameKind.local && pz.line == px.line)
  · simp [c1, c2, c0] at h ⊢
    rw [h]; rfl
  · simp [c1, c2, c0] at h ⊢
    rw [h]; rfl
  · simp [c1, c2, c0] at h ⊢
    rw [h]; rfl
  · have c1' : ¬ sc.names.lookup x = some .local := by simpa using c1
    simp [c1, c2, c0] at h ⊢
    rw [if_neg c1'] at h
    cases h; rfl
  · simp [c1, c2, c0] at h ⊢
    rw [h]; rfl
  · simp [c1, c2, c0] at h ⊢
    rw [h]; rfl
  · simp [c1, c2, c0] at h ⊢
    rw [h]; rfl
  · have ed : [x, y, z].eraseDups.length = 3 := by simp [List.eraseDups_cons, hxy, Ne.symm hxy, hxz, Ne.symm hxz, hyz, Ne.symm hyz]
    simp only [c1, c2, c0, Bool.and_self, if_true, if_pos] at h
    simp only [c1, c2, c0, if_true]
    cases c3 : (foldedForSure 8 a && (foldedForSure 8 b && foldedForSure 8 c))
    · cases c4 : (constantsAlone 8 a && (constantsAlone 8 b && constantsAlone 8 c))
      · rw [c3, c4] at h
        cases h
        simp [ed, c3, c4]
        intro hh
        exfalso
        rcases hh with hh | hh | hh
        · cases a <;> first | (cases hh; done) | (cases ha; done)
        · cases b <;> first | (cases hh; done) | (cases hb; done)
        · cases c <;> first | (cases hh; done) | (cases hc; done)
      · rw [c3, c4] at h
        cases h
    · rw [c3] at h
      cases h
      simp [ed, c3]
theorem GoodS.kind (g : GoodS sx P N sc wx cls X) (z : Str) : X.env.kindOf z = sc.names.lookup z := by show X.env.scope.names.lookup z = _; rw [g.hsc]
theorem wrap_ok {l : List (Nat × Nat)} {st : Stmt} {m : Sm} {line : Nat} (h : PS X st (tS (kx X) wx P fu m)) : PS X st (tS (kx X) wx P fu (wrapF l line m)) := by
  unfold wrapF
  induction (l.filter fun p => p.1 == line) with
  | nil => exact h
  | cons p r ih => exact PS.imp ih fun D σ H q => frz_S q
theorem nodup_ne {x y : Str} {i j : Nat} (h1 : N[i]? = some x) (h2 : N[j]? = some y) (hij : i ≠ j) (nd : N.Nodup) : x ≠ y := fun e => hij ((List.getElem?_inj (List.getElem?_eq_some_iff.mp h1).1 nd).mp (h1.trans (by rw [e]; exact h2.symm)))
theorem swK_local {ns : List (Str × Pos)} {vs : List Expr} (h : swK sc ns vs = some true) : ∀ p ∈ ns, sc.names.lookup p.1 = some .local := by
  unfold swK at h
  rcases ite_of h with ⟨c, _⟩ | ⟨_, h⟩
  · intro p hp
    have := List.all_eq_true.mp c p hp
    simp only [Bool.and_eq_true, beq_iff_eq] at this
    exact this.1
  · cases h
variable (sx P N cls dx fu) in
def AllS (n : Nat) : Prop := ∀ (sc : Scope) (wx : Wx) (X : Cx), GoodS sx P N sc wx cls X → ∀ st m, cS sx N dx n sc st = some m → PS X st (tS (kx X) wx P fu m)
variable (sx P N cls dx fu) in
def AllSs (n : Nat) : Prop := ∀ (sc : Scope) (wx : Wx) (X : Cx), GoodS sx P N sc wx cls X → ∀ st m, cSs sx N dx n sc st = some m → PSs X st (tSs (kx X) wx P fu m)
theorem asg_comp (g : GoodS sx P N sc wx cls X) {x : Str} {px pos : Pos} {i : Nat} {e : Expr} {y : E} (hc : isComp e = true) (hx : N[i]? = some x) (hl : locB (sc.names.lookup x) = true) (h : cE sx N n sc e = some y) : PS X (.Assign [.Name x px] e pos) (tS (kx X) wx P fu (.asg (.nm i) y)) := by
  have hN : X.N.Nodup := by rw [g.hN]; exact g.nd
  have hi : X.N[i]? = some x := by rw [g.hN]; exact hx
  have pe := ((snd_all n).1 sc wx X g.toGood e y h).pe
  obtain ⟨l1, l2⟩ := g.loc hl
  cases n with
  | zero => unfold cE at h; cases h
  | succ n =>
    cases e with
    | ListComp elt gs scope cpos =>
      cases hw : swC sc x px (.ListComp elt gs scope cpos) with
      | false => exact PS.imp (ps_set hN hi l1 pe (by rw [sw_comp g, hw]) l2) fun D σ H q => asg_S q
      | true =>
        have hloc : X.env.scope.names.lookup x = some .local := by
          rw [g.hsc]
          unfold swC at hw
          simp only [Bool.and_eq_true, beq_iff_eq] at hw
          exact hw.1.1
        have iE := (snd_all (sx := sx) (P := P) (N := N) (cls := cls) n).1
        have iI := (snd_all (sx := sx) (P := P) (N := N) (cls := cls) n).2.2
        unfold cE at h
        split at h
        all_goals try (exact Expr.noConfusion (by assumption))
        all_goals first
          | (rename_i heq; cases heq; done)
          | skip
        · rename_i heq
          cases heq
          obtain ⟨t, h1, h⟩ := bind_of h
          obtain ⟨it, h2, h⟩ := bind_of h
          rcases ite_of h with ⟨hb, h⟩ | ⟨_, h⟩
          case inr => cases h
          obtain ⟨y', h3, rfl⟩ := map_of h
          have c := comp_parts iE iI g.toGood h1 h2 hb h3 (.inl ⟨rfl, rfl⟩)
          refine PS.imp (ps_setLc (pos := cpos) g.calm hN hi hloc (by rw [sw_comp g, hw]) c.hi c.ok c.hg c.ht c.he c.hs) fun D σ H q => ?_
          rw [c.b3]
          exact comp_D (asg_S q)
        · rename_i heq
          cases heq
          obtain ⟨t, h1, h⟩ := bind_of h
          obtain ⟨it, h2, h⟩ := bind_of h
          rcases ite_of h with ⟨hb, h⟩ | ⟨_, h⟩
          case inr => cases h
          obtain ⟨x', h4, h⟩ := bind_of h
          obtain ⟨y', h3, rfl⟩ := map_of h
          have c := comp_parts iE iI g.toGood h1 h2 hb h3 (.inr ⟨_, rfl, h4⟩)
          refine PS.imp (ps_setLc (pos := cpos) g.calm hN hi hloc (by rw [sw_comp g, hw]) c.hi c.ok c.hg c.ht c.he c.hs) fun D σ H q => ?_
          rw [c.b3]
          exact comp_D (asg_S q)
        · cases h
    | _ => first | (cases hc; done) | (unfold cE at h; cases h)
end
end FO

set_option Elab.async false
set_option linter.all false
set_option maxHeartbeats 4000000
set_option maxRecDepth 10000
namespace FO
open PySem PySem.Spec L2
section
variable {sx : Sx} {P : Pg} {N : List Str} {cls : Nat → Value} {sc : Scope} {wx : Wx} {X : Cx} {dx : Dx} {fu n : Nat}
theorem c_name (g : GoodS sx P N sc wx cls X) {x : Str} {px pos : Pos} {e : Expr} {m : Sm} (h : ((lsl N sc x).bind fun i => if isComp e then (if sc.kind == .function then (cE sx N n sc e).map fun y => Sm.asg (.nm i) y else none)
        else (cX sx N dx n sc i e).map fun p => if p.1 then Sm.own i p.2 else .asg (.nm i) p.2) = some m) : PS X (.Assign [.Name x px] e pos) (tS (kx X) wx P fu m) := by
  obtain ⟨i, h0, h⟩ := bind_of h
  obtain ⟨hl, hx⟩ := lsl_ok h0
  have hN : X.N.Nodup := by rw [g.hN]; exact g.nd
  have hi : X.N[i]? = some x := by rw [g.hN]; exact hx
  obtain ⟨l1, l2⟩ := g.loc hl
  rcases ite_of h with ⟨hc, h⟩ | ⟨hc, h⟩
  · rcases ite_of h with ⟨_, h⟩ | ⟨_, h⟩
    · obtain ⟨y, h1, rfl⟩ := map_of h
      exact asg_comp g hc hx hl h1
    · cases h
  · have hc := Bool.eq_false_iff.mpr hc
    obtain ⟨⟨b, y⟩, h1, rfl⟩ := map_of h
    have px := all_X g.toGood h1
    cases b with
    | true => exact PS.imp (ps_set hN hi l1 px (sw_no hc) l2) fun D σ H q => own_S q
    | false => exact PS.imp (ps_set hN hi l1 px (sw_no hc) l2) fun D σ H q => asg_S q
theorem c_par2 (g : GoodS sx P N sc wx cls X) {x y : Str} {px py p p2 pos : Pos} {k k2 : Nat} {a b : Expr} {m : Sm} (h : ((lsl N sc x).bind fun i => (lsl N sc y).bind fun j => if i = j then none else (swK sc [(x, px), (y, py)] [a, b]).bind fun _ => if (isStar a || isStar b) = true then none else
        (cX sx N dx n sc i a).bind fun u => (cX sx N dx n sc j b).map fun v => Sm.par [(i, u.1), (j, v.1)] (.cons u.2 (.cons v.2 .nil))) = some m) : PS X (.Assign [.Tuple [.Name x px, .Name y py] k p] (.Tuple [a, b] k2 p2) pos) (tS (kx X) wx P fu m) := by
  obtain ⟨i, h0, h⟩ := bind_of h
  obtain ⟨j, h1, h⟩ := bind_of h
  rcases ite_of h with ⟨_, h⟩ | ⟨hij, h⟩
  · cases h
  obtain ⟨r, hr, h⟩ := bind_of h
  rcases ite_of h with ⟨_, h⟩ | ⟨hst, h⟩
  · cases h
  obtain ⟨⟨b1, e1⟩, h2, h⟩ := bind_of h
  obtain ⟨⟨b2, e2⟩, h3, rfl⟩ := map_of h
  obtain ⟨hs1, hs2⟩ := Bool.or_eq_false_iff.mp (Bool.eq_false_iff.mpr hst)
  obtain ⟨lx, nx⟩ := lsl_ok h0
  obtain ⟨ly, ny⟩ := lsl_ok h1
  have hN : X.N.Nodup := by rw [g.hN]; exact g.nd
  have hi : X.N[i]? = some x := by rw [g.hN]; exact nx
  have hj : X.N[j]? = some y := by rw [g.hN]; exact ny
  have hxy := nodup_ne nx ny hij g.nd
  have hw := sw_all (kt := k) (pt := p) (k2 := k2) (p2 := p2) g.block g.kind hxy hs1 hs2 hr
  have pa : PA X [a, b] (tCons (tX (kx X) wx P b1 e1) (tCons (tX (kx X) wx P b2 e2) tNil)) := pa_cons (all_X g.toGood h2) (pa_cons (all_X g.toGood h3) pa_nil (star_not hs2)) (star_not hs1)
  obtain ⟨l1, l2⟩ := g.loc lx
  obtain ⟨l3, l4⟩ := g.loc ly
  cases r with
  | true =>
    have loc := swK_local hr
    have lox : X.env.scope.names.lookup x = some .local := by rw [g.hsc]; exact loc (x, px) (by simp)
    have loy : X.env.scope.names.lookup y = some .local := by rw [g.hsc]; exact loc (y, py) (by simp)
    exact PS.imp (ps_par g.calm hN hi hj hij lox loy pa hw rfl) fun D σ H q => par2_swap q
  | false =>
    have pg : PG X (.Tuple [.Name x px, .Name y py] k p) (gTup X.K 2 (gCons (gName i) (gCons (gName j) gNil))) := pg_tup g.calm (pgs_cons (pg_name hN hi l1 l2) (pgs_cons (pg_name hN hj l3 l4) pgs_nil))
    exact PS.imp (ps_asg (pe_tup pa) pg rfl hw rfl) fun D σ H q => par2_tup q
theorem c_par3 (g : GoodS sx P N sc wx cls X) {x y z : Str} {px py pz p p2 pos : Pos} {k k2 : Nat} {a b c : Expr} {m : Sm} (h : ((lsl N sc x).bind fun i => (lsl N sc y).bind fun j => (lsl N sc z).bind fun l => if i = j ∨ i = l ∨ j = l then none else (swK sc [(x, px), (y, py), (z, pz)] [a, b, c]).bind fun _ =>
        if (isStar a || isStar b || isStar c) = true then none else
        (cX sx N dx n sc i a).bind fun u => (cX sx N dx n sc j b).bind fun v => (cX sx N dx n sc l c).map fun w => Sm.par [(i, u.1), (j, v.1), (l, w.1)] (.cons u.2 (.cons v.2 (.cons w.2 .nil)))) = some m) : PS X (.Assign [.Tuple [.Name x px, .Name y py, .Name z pz] k p] (.Tuple [a, b, c] k2 p2) pos) (tS (kx X) wx P fu m) := by
  obtain ⟨i, h0, h⟩ := bind_of h
  obtain ⟨j, h1, h⟩ := bind_of h
  obtain ⟨l, h5, h⟩ := bind_of h
  rcases ite_of h with ⟨_, h⟩ | ⟨hij, h⟩
  · cases h
  obtain ⟨r, hr, h⟩ := bind_of h
  rcases ite_of h with ⟨_, h⟩ | ⟨hst, h⟩
  · cases h
  obtain ⟨⟨b1, e1⟩, h2, h⟩ := bind_of h
  obtain ⟨⟨b2, e2⟩, h3, h⟩ := bind_of h
  obtain ⟨⟨b3, e3⟩, h4, rfl⟩ := map_of h
  obtain ⟨hs12, hs3⟩ := Bool.or_eq_false_iff.mp (Bool.eq_false_iff.mpr hst)
  obtain ⟨hs1, hs2⟩ := Bool.or_eq_false_iff.mp hs12
  obtain ⟨lx, nx⟩ := lsl_ok h0
  obtain ⟨ly, ny⟩ := lsl_ok h1
  obtain ⟨lz, nz⟩ := lsl_ok h5
  have hN : X.N.Nodup := by rw [g.hN]; exact g.nd
  have hi : X.N[i]? = some x := by rw [g.hN]; exact nx
  have hj : X.N[j]? = some y := by rw [g.hN]; exact ny
  have hl : X.N[l]? = some z := by rw [g.hN]; exact nz
  have d1 : i ≠ j := fun e => hij (.inl e)
  have d2 : i ≠ l := fun e => hij (.inr (.inl e))
  have d3 : j ≠ l := fun e => hij (.inr (.inr e))
  have hw := sw_all3 (kt := k) (pt := p) (k2 := k2) (p2 := p2) g.block g.kind (nodup_ne nx ny d1 g.nd) (nodup_ne nx nz d2 g.nd) (nodup_ne ny nz d3 g.nd) hs1 hs2 hs3 hr
  have pa : PA X [a, b, c] (tCons (tX (kx X) wx P b1 e1) (tCons (tX (kx X) wx P b2 e2) (tCons (tX (kx X) wx P b3 e3) tNil))) := pa_cons (all_X g.toGood h2) (pa_cons (all_X g.toGood h3) (pa_cons (all_X g.toGood h4) pa_nil (star_not hs3)) (star_not hs2)) (star_not hs1)
  obtain ⟨l1, l2⟩ := g.loc lx
  obtain ⟨l3, l4⟩ := g.loc ly
  obtain ⟨l5, l6⟩ := g.loc lz
  cases r with
  | true =>
    have loc := swK_local hr
    have lox : X.env.scope.names.lookup x = some .local := by rw [g.hsc]; exact loc (x, px) (by simp)
    have loy : X.env.scope.names.lookup y = some .local := by rw [g.hsc]; exact loc (y, py) (by simp)
    have loz : X.env.scope.names.lookup z = some .local := by rw [g.hsc]; exact loc (z, pz) (by simp)
    exact PS.imp (ps_par3 g.calm hN hi hj hl d1 d2 d3 lox loy loz pa hw rfl) fun D σ H q => par3_swap q
  | false =>
    have pg : PG X (.Tuple [.Name x px, .Name y py, .Name z pz] k p) (gTup X.K 3 (gCons (gName i) (gCons (gName j) (gCons (gName l) gNil)))) := pg_tup g.calm (pgs_cons (pg_name hN hi l1 l2) (pgs_cons (pg_name hN hj l3 l4) (pgs_cons (pg_name hN hl l5 l6) pgs_nil)))
    exact PS.imp (ps_asg (pe_tup pa) pg rfl hw rfl) fun D σ H q => par3_tup q
theorem sws_no {e tg : Expr} {env : Env} (h : isTup e = false) : swappedStores [tg] e env = pure none := by
  cases tg <;> first | rfl | (cases e <;> first | rfl | (cases h; done))
theorem c_tup (g : GoodS sx P N sc wx cls X) {ts : List Expr} {k : Nat} {p pos : Pos} {e : Expr} {m : Sm} (h : (if (isTup e || isComp e) = true then none else (cTg N n (.Tuple ts k p)).bind fun t => if ((tgNames N t).all fun x => locB (sc.names.lookup x)) = true then (cE sx N n sc e).map fun y => Sm.asg t y else none) = some m) :
    PS X (.Assign [.Tuple ts k p] e pos) (tS (kx X) wx P fu m) := by
  rcases ite_of h with ⟨_, h⟩ | ⟨hc, h⟩
  · cases h
  obtain ⟨c1, c2⟩ := Bool.or_eq_false_iff.mp (Bool.eq_false_iff.mpr hc)
  obtain ⟨t, h0, h⟩ := bind_of h
  rcases ite_of h with ⟨hl, h⟩ | ⟨_, h⟩
  case inr => cases h
  obtain ⟨y, h1, rfl⟩ := map_of h
  have pg := snd_Tg g.hN g.nd g.calm n _ t h0 fun x hx => g.loc (List.all_eq_true.mp hl x hx)
  have pe := ((snd_all n).1 sc wx X g.toGood e y h1).pe
  have ht : ∃ ts', t = .tp ts' := by
    cases n with
    | zero => cases h0
    | succ n => obtain ⟨ts', _, rfl⟩ := map_of (show (cTg.cTgs N n ts).map Tg.tp = some t from h0); exact ⟨ts', rfl⟩
  obtain ⟨ts', rfl⟩ := ht
  exact PS.imp (ps_asg pe pg (show swapsWith e (some (.Tuple ts k p)) pos.line X.env = pure false from sw_no c2) (sws_no c1) rfl) fun D σ H q => asgT_S q
theorem c_sub (g : GoodS sx P N sc wx cls X) {o i : Expr} {p pos : Pos} {e : Expr} {m : Sm} (h : (if isSlice i = true then none else (cE sx N n sc o).bind fun x => (cE sx N n sc i).bind fun y => (cE sx N n sc e).map fun z => Sm.setix x y z) = some m) :
    PS X (.Assign [.Subscript o i p] e pos) (tS (kx X) wx P fu m) := by
  rcases ite_of h with ⟨_, h⟩ | ⟨hc, h⟩
  · cases h
  have c1 := Bool.eq_false_iff.mpr hc
  obtain ⟨x, h0, h⟩ := bind_of h
  obtain ⟨y, h1, h⟩ := bind_of h
  obtain ⟨z, h2, rfl⟩ := map_of h
  have iE := (snd_all (sx := sx) (P := P) (N := N) (cls := cls) n).1
  have pg : PG X (.Subscript o i p) (gSub (tE (kx X) wx P x) (tE (kx X) wx P y) (rSetE X)) := pg_sub (iE sc wx X g.toGood o x h0).pe (iE sc wx X g.toGood i y h1).pe (set_E g.hu) (fun v => by cases i <;> first | rfl | (cases c1; done))
  exact PS.imp (ps_asg (iE sc wx X g.toGood e z h2).pe pg (show swapsWith e (some (.Subscript o i p)) pos.line X.env = pure false by cases e <;> rfl) rfl rfl) fun D σ H q => setix_S q
theorem c_aug (g : GoodS sx P N sc wx cls X) {x : Str} {px pos : Pos} {op : Operator} {e : Expr} {m : Sm} (h : ((lsl N sc x).bind fun i => (binOf op).bind fun o => if augOk o then (cE sx N n sc e).map fun y => Sm.aug i o y else none) = some m) :
    PS X (.AugAssign (.Name x px) op e pos) (tS (kx X) wx P fu m) := by
  obtain ⟨i, h0, h⟩ := bind_of h
  obtain ⟨o, ho, h⟩ := bind_of h
  rcases ite_of h with ⟨ha, h⟩ | ⟨_, h⟩
  case inr => cases h
  obtain ⟨y, h1, rfl⟩ := map_of h
  obtain ⟨hl, hx⟩ := lsl_ok h0
  obtain ⟨l1, l2⟩ := g.loc hl
  have e0 := opO_of ho
  subst e0
  have hao : o = .add ∨ o = .sub := by cases o <;> first | exact .inl rfl | exact .inr rfl | (cases ha; done)
  exact PS.imp (ps_aug (by rw [g.hN]; exact g.nd) (by rw [g.hN]; exact hx) l1 ((snd_all n).1 sc wx X g.toGood e y h1).pe (iop_aug o) l2) fun D σ H q => aug_S hao q
theorem c_app (g : GoodS sx P N sc wx cls X) {x : Str} {px ap p pos : Pos} {m : Str} {a : Expr} {sm : Sm} (h : (if m = "append" ∧ (ap.endLine == p.line) = true ∧ visB (sc.names.lookup x) = true ∧ ¬ (x = "__debug__" ∨ x = "__classdict__") then (slotOf N x).bind fun i => (cE sx N n sc a).map fun y => Sm.app i y else none) = some sm) :
    PS X (.Expr (.Call (.Attribute (.Name x px) m ap) [a] [] p) pos) (tS (kx X) wx P fu sm) := by
  rcases ite_of h with ⟨⟨hm, hl, hv, hd⟩, hh⟩ | ⟨_, h⟩
  case inr => cases h
  subst hm
  obtain ⟨i, h0, hh⟩ := bind_of hh
  obtain ⟨y, h1, rfl⟩ := map_of hh
  have st := star_not (es := []) (env := X.env) (cE_star h1)
  have pv : PE X (.Name x px) (tVar i) := pe_var (by rw [g.hN]; exact slotOf_ok h0) (g.vis x hv) (debug_ne fun z => hd (.inl z)) (beq_eq_false_iff_ne.mpr fun z => hd (.inr z))
  have pa : PA X [a] (tCons (tE (kx X) wx P y) tNil) := pa_cons ((snd_all n).1 sc wx X g.toGood a y h1).pe pa_nil st
  exact PS.imp (ps_expr (pe_bm PySem.F.plainAttrs_list PySem.F.slot_list_append PySem.F.type_list_append mt_append pv pa rfl (by rw [st]; rfl) hl st rfl) rfl) fun D σ H q => app_S q
theorem c_appE (g : GoodS sx P N sc wx cls X) {o : Expr} {f : Str} {fp ap p pos : Pos} {m : Str} {a : Expr} {sm : Sm} (h : (if m = "append" ∧ (ap.endLine == p.line) = true then (cE sx N n sc (.Attribute o f fp)).bind fun x => (cE sx N n sc a).map fun y => Sm.appE x y else none) = some sm) :
    PS X (.Expr (.Call (.Attribute (.Attribute o f fp) m ap) [a] [] p) pos) (tS (kx X) wx P fu sm) := by
  rcases ite_of h with ⟨⟨hm, hl⟩, hh⟩ | ⟨_, h⟩
  case inr => cases h
  subst hm
  obtain ⟨x, h0, hh⟩ := bind_of hh
  obtain ⟨y, h1, rfl⟩ := map_of hh
  have st := star_not (es := []) (env := X.env) (cE_star h1)
  have iE := (snd_all (sx := sx) (P := P) (N := N) (cls := cls) n).1
  have pa : PA X [a] (tCons (tE (kx X) wx P y) tNil) := pa_cons (iE sc wx X g.toGood a y h1).pe pa_nil st
  exact PS.imp (ps_expr (pe_bm PySem.F.plainAttrs_list PySem.F.slot_list_append PySem.F.type_list_append mt_append (iE sc wx X g.toGood _ x h0).pe pa rfl (by rw [st]; rfl) hl st rfl) rfl) fun D σ H q => appE_S q
theorem c_setf (g : GoodS sx P N sc wx cls X) {o e : Expr} {f : Str} {p pos : Pos} {m : Sm} (h : (if (isComp e || isSup o) = true then none else (sx.flds.lookup f).bind fun c => (cE sx N n sc o).bind fun x => if dx.nf.contains f = true then (cN sx N n sc e).map fun y => Sm.setf c x f (.newL y) else (cE sx N n sc e).map fun y => .setf c x f y) = some m) :
    PS X (.Assign [.Attribute o f p] e pos) (tS (kx X) wx P fu m) := by
  rcases ite_of h with ⟨_, h⟩ | ⟨hc, h⟩
  · cases h
  obtain ⟨c1, c2⟩ := Bool.or_eq_false_iff.mp (Bool.eq_false_iff.mpr hc)
  obtain ⟨c, h0, h⟩ := bind_of h
  obtain ⟨x, h1, h⟩ := bind_of h
  obtain ⟨f1, f2⟩ := g.flds c f h0
  have iE := (snd_all (sx := sx) (P := P) (N := N) (cls := cls) n).1
  have po := (iE sc wx X g.toGood o x h1).pe
  rcases ite_of h with ⟨_, h⟩ | ⟨_, h⟩
  · obtain ⟨y, h2, rfl⟩ := map_of h
    exact PS.imp (ps_fld po (all_N g.toGood n e y h2) (sw_no c1)) fun D σ H q => setf_S f1 f2 (fun Q q => newL_D q) q
  · obtain ⟨y, h2, rfl⟩ := map_of h
    exact PS.imp (ps_fld po (iE sc wx X g.toGood e y h2).pe (sw_no c1)) fun D σ H q => setf_S f1 f2 (fun Q q => q) q
theorem c_ret (g : GoodS sx P N sc wx cls X) {e : Expr} {pos : Pos} {m : Sm} (h : (if dx.cl = true then (match e with
        | .List [a, b] _ => if (isStar a || isStar b) = true then none else (cN sx N n sc a).bind fun x => (cE sx N n sc b).map fun y => Sm.ret (.newW (.cons (.newL x) (.cons y .nil)))
        | .ListComp elt [⟨tg, it, [], 0⟩] scope p => (cE sx N n sc (.ListComp elt [⟨tg, it, [], 0⟩] scope p)).map fun y => Sm.ret (.newL y)
        | _ => none) else (cE sx N n sc e).map .ret) = some m) : PS X (.Return (some e) pos) (tS (kx X) wx P fu m) := by
  rcases ite_of h with ⟨_, h⟩ | ⟨_, h⟩
  · split at h
    · rename_i a b p _
      rcases ite_of h with ⟨_, h⟩ | ⟨hst, h⟩
      · cases h
      obtain ⟨hs1, hs2⟩ := Bool.or_eq_false_iff.mp (Bool.eq_false_iff.mpr hst)
      obtain ⟨x, h1, h⟩ := bind_of h
      obtain ⟨y, h2, rfl⟩ := map_of h
      have p1 : PE X a (tE (kx X) wx P (.newL x)) := PE.imp (all_N g.toGood n a x h1) fun σ H Q q => newL_D q
      have p2 := ((snd_all n).1 sc wx X g.toGood b y h2).pe
      have pa : PA X [a, b] (tEs (kx X) wx P (.cons (.newL x) (.cons y .nil))) := PA.imp (pa_cons p1 (PA.imp (pa_cons p2 (PA.imp pa_nil fun σ H Q q => nil_D q) (star_not hs2)) fun σ H Q q => cons_D q) (star_not hs1)) fun σ H Q q => cons_D q
      refine PS.imp (ps_ret (PE.imp (pe_lst pa) fun σ H Q q => newW_D (fun ρ S ws S' e => ?_) q)) fun D σ H q => ret_S q
      have hlen : ws.length = 2 := by
        simp only [evs] at e
        cases q1 : ev P (.newL x) ρ S with
        | bad => rw [q1] at e; cases e
        | ex c S1 => rw [q1] at e; cases e
        | ok w1 S1 =>
          rw [q1] at e
          simp only [Res.bind] at e
          cases q2 : ev P y ρ S1 with
          | bad => rw [q2] at e; cases e
          | ex c S2 => rw [q2] at e; cases e
          | ok w2 S2 => rw [q2] at e; cases e; rfl
      rw [hlen, sizeLine_eq]; omega
    · rename_i elt tg it scope p _
      obtain ⟨y, h1, rfl⟩ := map_of h
      cases n with
      | zero => unfold cE at h1; cases h1
      | succ n =>
        unfold cE at h1
        obtain ⟨t, h2, h1⟩ := bind_of h1
        obtain ⟨i, h3, h1⟩ := bind_of h1
        rcases ite_of h1 with ⟨hb, h1⟩ | ⟨_, h1⟩
        · obtain ⟨z, h4, rfl⟩ := map_of h1
          have p1 : PE X (.ListComp elt [⟨tg, it, [], 0⟩] scope p) (tE (kx X) wx P (.newL (.comp t i (.c (.bool true)) z))) := PE.imp (s_compN (snd_all n).1 (snd_all n).2.2 g.toGood h2 h3 hb h4 (.inl ⟨rfl, rfl⟩)) fun σ H Q q => newL_D q
          exact PS.imp (ps_ret p1) fun D σ H q => ret_S q
        · cases h1
    · cases h
  · obtain ⟨y, h1, rfl⟩ := map_of h
    exact PS.imp (ps_ret ((snd_all n).1 sc wx X g.toGood e y h1).pe) fun D σ H q => ret_S q
theorem c_for (is : AllSs sx P N cls dx fu n) (g : GoodS sx P N sc wx cls X) {tg iter : Expr} {b : List Stmt} {pos : Pos} {m : Sm} (h : ((cTg N n tg).bind fun t => if ((tgNames N t).all fun x => locB (sc.names.lookup x)) = true then (cI sx N n sc iter).bind fun i => if enumOk tg i = true then (cSs sx N dx n sc b).map fun y => Sm.for_ t i y else none else none) = some m) :
    PS X (.For tg iter b [] pos) (tS (kx X) wx P fu m) := by
  obtain ⟨t, h0, h⟩ := bind_of h
  rcases ite_of h with ⟨hl, h⟩ | ⟨_, h⟩
  case inr => cases h
  obtain ⟨it, h1, h⟩ := bind_of h
  rcases ite_of h with ⟨he, h⟩ | ⟨_, h⟩
  case inr => cases h
  obtain ⟨y, h2, rfl⟩ := map_of h
  obtain ⟨pi, hset⟩ := (snd_all (sx := sx) (P := P) (N := N) (cls := cls) n).2.2 sc wx X g.toGood tg iter it h1 he
  have pg := snd_Tg g.hN g.nd g.calm n tg t h0 fun x hx => g.loc (List.all_eq_true.mp hl x hx)
  exact PS.imp (ps_for g.own g.calm pi pg (is sc wx X g b y h2) (folded_not hset)) fun D σ H q => for_S q
theorem c_try (is : AllSs sx P N cls dx fu n) (g : GoodS sx P N sc wx cls X) {x m m2 y : Str} {b : List Stmt} {p1 p2 p3 p4 p5 pos : Pos} {sm : Sm} (h : (if (sx.full && (m2 == m && glB (sc.names.lookup x) && (sc.names.lookup m == some .local) && !(m == "__debug__") && !(m == "__classdict__") && !(x == "__debug__"))) = true then
        (slotOf sx.exs x).bind fun c => (slotOf N m).bind fun i => (lsl N sc y).bind fun j => if i = j then none else (cSs sx N dx n sc b).map fun z => Sm.try_ z c i j else none) = some sm) :
    PS X (.Try b [.ExceptHandler (some (.Name x p1)) (some m) [.Assign [.Name y p2] (.Name m2 p3) p4] p5] [] [] pos) (tS (kx X) wx P fu sm) := by
  rcases ite_of h with ⟨hc, h⟩ | ⟨_, h⟩
  case inr => cases h
  simp only [Bool.and_eq_true, beq_iff_eq, Bool.not_eq_true'] at hc
  obtain ⟨hfull, ⟨⟨⟨⟨⟨hm2, hgl⟩, hlm⟩, hd1⟩, hd2⟩, hd3⟩⟩ := hc
  subst hm2
  obtain ⟨c, h0, h⟩ := bind_of h
  obtain ⟨i, h1, h⟩ := bind_of h
  obtain ⟨j, h2, h⟩ := bind_of h
  rcases ite_of h with ⟨_, h⟩ | ⟨hij, h⟩
  · cases h
  obtain ⟨z, h3, rfl⟩ := map_of h
  obtain ⟨hl, hy⟩ := lsl_ok h2
  obtain ⟨l1, l2⟩ := g.loc hl
  have hsl := slotOf_ok h0
  have ee : sx.exs = exN := eq_of_beq hfull
  have hc8 : c < 8 := by
    have := (List.getElem?_eq_some_iff.mp hsl).1
    rw [ee] at this
    exact this
  have hne : ∀ t ∈ exN, (t == ("" : Str)) = false := by decide +kernel
  obtain ⟨m1, m2'⟩ := g.exg c x hsl (hne x (by rw [← ee]; exact List.mem_of_getElem? hsl))
  have hcl : ∀ k, k < 8 → cls k = .ref (exA X.K k) := fun k hk => by
    have hk' : k < exN.length := hk
    have e1 : sx.exs[k]? = some exN[k] := by rw [ee]; exact List.getElem?_eq_getElem hk'
    exact (g.exg k _ e1 (hne _ (List.getElem_mem hk'))).2
  obtain ⟨Wc, tk, hw⟩ := g.tk
  have hN : X.N.Nodup := by rw [g.hN]; exact g.nd
  have hi : X.N[i]? = some m2 := by rw [g.hN]; exact slotOf_ok h1
  have hj : X.N[j]? = some y := by rw [g.hN]; exact hy
  refine PS.imp (ps_try_keep (c := cls c) (Wout := Wc) (tb := fun W => tSs (kx X) (fun k σ H => W (cls k) none σ H) P fu z) g.hst g.hfr g.hex hN hi hj hij (by show X.env.scope.names.lookup m2 = _; rw [g.hsc]; exact hlm) l1 l2 hd1 hd2 ⟨g.gl x hgl, hd3, .inl m1⟩ tk fun W pn xe tk' own' => ?_) fun D σ H q => try_S hij hc8 hw hcl (fun k hk => g.exm hfull k c hk hc8) q
  exact is sc _ (X.tr pn xe) (g.tr tk' own') b z h3
theorem all_Ss (iS : AllS sx P N cls dx fu n) (is : AllSs sx P N cls dx fu n) : AllSs sx P N cls dx fu (n + 1) := by
  intro sc wx X g st m h
  cases st with
  | nil => unfold cSs at h; cases h; exact PSs.imp pss_nil fun D σ H q => nil_S q
  | cons s r =>
    unfold cSs at h
    obtain ⟨x, h1, h⟩ := bind_of h
    obtain ⟨y, h2, rfl⟩ := map_of h
    exact PSs.imp (pss_cons (wrap_ok (iS sc wx X g s x h1)) (is sc wx X g r y h2)) fun D σ H q => cons_S q
theorem all_S (is : AllSs sx P N cls dx fu n) : AllS sx P N cls dx fu (n + 1) := by
  intro sc wx X g st m h
  have iE := (snd_all (sx := sx) (P := P) (N := N) (cls := cls) n).1
  unfold cS at h
  split at h
  · exact c_name g h
  · exact c_par2 g h
  · exact c_par3 g h
  · exact c_tup g h
  · exact c_sub g h
  · exact c_setf g h
  · exact c_aug g h
  · rcases ite_of h with ⟨_, h⟩ | ⟨_, h⟩
    · exact c_app g h
    · obtain ⟨y, h1, rfl⟩ := map_of h
      exact PS.imp (ps_expr (iE sc wx X g.toGood _ y h1).pe rfl) fun D σ H q => expr_S q
  · rcases ite_of h with ⟨_, h⟩ | ⟨_, h⟩
    · exact c_appE g h
    · obtain ⟨y, h1, rfl⟩ := map_of h
      exact PS.imp (ps_expr (iE sc wx X g.toGood _ y h1).pe rfl) fun D σ H q => expr_S q
  · rcases ite_of h with ⟨_, h⟩ | ⟨hc, h⟩
    · cases h
    obtain ⟨y, h1, rfl⟩ := map_of h
    exact PS.imp (ps_expr (iE sc wx X g.toGood _ y h1).pe (sw_no (Bool.eq_false_iff.mpr hc))) fun D σ H q => expr_S q
  · exact c_ret g h
  · obtain ⟨x, h1, h⟩ := bind_of h
    obtain ⟨y, h2, h⟩ := bind_of h
    obtain ⟨z, h3, rfl⟩ := map_of h
    exact PS.imp (ps_if (iE sc wx X g.toGood _ x h1).pt (is sc wx X g _ y h2) (is sc wx X g _ z h3)) fun D σ H q => iff_S q
  · exact c_for is g h
  · obtain ⟨x, h1, h⟩ := bind_of h
    obtain ⟨y, h2, rfl⟩ := map_of h
    exact PS.imp (ps_while g.own (iE sc wx X g.toGood _ x h1).pt (is sc wx X g _ y h2)) fun D σ H q => while_S q
  · rcases ite_of h with ⟨⟨hgl, hne⟩, h⟩ | ⟨_, h⟩
    · obtain ⟨c, h1, rfl⟩ := map_of h
      obtain ⟨Wc, tk, hw⟩ := g.tk
      exact PS.imp (ps_raise g.calm tk (g.exs X.pn X.xe c _ _ _ _ _ _ (slotOf_ok h1) hne (g.gl _ hgl))) fun D σ H q => hw _ _ _ (raise_S q)
    · cases h
  · cases h
    exact PS.imp ps_pass fun D σ H q => pass_S q
  · exact c_try is g h
  · cases h
theorem snd_S : ∀ n : Nat, AllS sx P N cls dx fu n ∧ AllSs sx P N cls dx fu n
  | 0 => ⟨fun _ _ _ _ st m h => (by unfold cS at h; cases h), fun _ _ _ _ st m h => (by unfold cSs at h; cases h)⟩
  | n + 1 => let ⟨a, b⟩ := snd_S n; ⟨all_S b, all_Ss a b⟩
end
end FO

set_option Elab.async false
set_option linter.all false
set_option maxHeartbeats 2000000
set_option maxRecDepth 10000
namespace FO
open PySem PySem.Spec L2
/-! ### bodies that begin with a written text under a name: behind it e.replace(..) of written texts is covered -/
section
variable (sx : Sx) (N : List Str) (dx : Dx)
def cTa (n : Nat) (sc : Scope) (e : Expr) : Option E := match e with
  | .Call (.Attribute o m ap) [.Constant (.str y) _ _, .Constant (.str z) _ _] [] p => if m = "replace" ∧ (ap.endLine == p.line) = true ∧ isSup o = false ∧ (y == z) = false then (cE sx N n sc o).map fun x => .repl x (.c (.str y)) (.c (.str z)) else none
  | e => cE sx N n sc e
def cTl (n : Nat) (sc : Scope) : List Expr → Option Es
  | [] => some .nil
  | e :: es => (cTa sx N n sc e).bind fun x => (cTl n sc es).map fun xs => .cons x xs
def cTe (n : Nat) (sc : Scope) (e : Expr) : Option E := match e with
  | .List es _ => (cTl sx N n sc es).map .lst
  | .BinOp a op (.List es _) _ => (binOf op).bind fun o => (cE sx N n sc a).bind fun x => (cTl sx N n sc es).map fun y => .bin o x (.lst y)
  | _ => none
def cT1 (n : Nat) (sc : Scope) (s : Stmt) : Option Sm := match s with
  | .Assign [.Name x px] e pos => (match (lsl N sc x).bind fun i => (cTe sx N n sc e).map fun y => Sm.asg (.nm i) y with
    | some m => some m
    | none => cS sx N dx n sc (.Assign [.Name x px] e pos))
  | s => cS sx N dx n sc s
def cTs (n : Nat) (sc : Scope) : List Stmt → Option Sms
  | [] => some .nil
  | s :: r => (cT1 sx N dx n sc s).bind fun m => (cTs n sc r).map fun y => .cons m y
def cB (n : Nat) (sc : Scope) (body : List Stmt) : Option Sms := if dx.tm then (match body with
  | .Assign [.Name x _] (.Constant (.str c) _ _) _ :: r => (lsl N sc x).bind fun i => (cTs sx N dx n sc r).map fun y => .cons (.asg (.nm i) (.c (.str c))) y
  | _ => none) else cSs sx N dx n sc body
end
section
variable {sx : Sx} {P : Pg} {N : List Str} {cls : Nat → Value} {sc : Scope} {wx : Wx} {X : Cx} {dx : Dx} {fu n : Nat}
theorem PET.imp {e : Expr} {t t' : TE} (h : PET X e t) (i : ∀ σ H Q, t' σ H Q → t σ H Q) : PET X e t' := fun pins s σ H Q h0 I q => h pins s σ H Q h0 I (i σ H Q q)
theorem PAT.imp {es : List Expr} {t t' : TA} (h : PAT X es t) (i : ∀ σ H Q, t' σ H Q → t σ H Q) : PAT X es t' := fun pos pins s σ H Q h0 I q => h pos pins s σ H Q h0 I (i σ H Q q)
theorem repl_D {o : E} {y z : Str} {σ : St} {H : Hp} {Q : VK} (h : tE (kx X) wx P (.repl o (.c (.str y)) (.c (.str z))) σ H Q) : CwR.tReplC (tE (kx X) wx P o) y z σ H Q := by
  obtain ⟨Z, β, F, ρ, S, rl, h⟩ := h
  simp only [ev] at h
  refine ⟨Z, β, F, ρ, S, rl, h.bind.mono fun w β1 F1 S1 H1 u1 rl1 ⟨_, _, h1⟩ v rv => ?_⟩
  cases w with
  | ref n => exact h1.elim
  | exc n => exact h1.elim
  | d x =>
    obtain ⟨d, e, k⟩ := Pw.lift (show Pw (kx X) Z ρ σ (fun c => wx c σ) β1 F1 H1 (Res.lift S1 ((replD x (.str y) (.str z)).map W.d)) _ from h1) rl1
    cases x with
    | str a =>
      have e : (if (!(y == z) && Nat.ble (a.length + (a.length + 1) * z.length) lim) = true then some (PyData.str (Txt.replace a y z)) else none) = some d := e
      by_cases c : (!(y == z) && Nat.ble (a.length + (a.length + 1) * z.length) lim) = true
      · rw [if_pos c] at e
        cases e
        cases (show Dp X.K F1 v (.str a) from rv)
        have c2 : a.length + (a.length + 1) * z.length ≤ 1000000 := Nat.le_of_ble_eq_true (Bool.and_eq_true_iff.mp c).2
        exact ⟨a, rfl, by omega, k F1 H1 (Nw.refl rl1.fh) (.str _) (.str _)⟩
      · rw [if_neg c] at e; cases e
    | _ => cases e
theorem t_a (g : Good sx P N sc wx cls X) {e : Expr} {ie : E} (h : cTa sx N n sc e = some ie) : PET X e (tE (kx X) wx P ie) ∧ isStar e = false := by
  unfold cTa at h
  split at h
  · rename_i o m ap y _ _ z _ _ p
    rcases ite_of h with ⟨⟨hm, hl, hs, hyz⟩, hh⟩ | ⟨_, h⟩
    · subst hm
      obtain ⟨x, h1, rfl⟩ := map_of hh
      exact ⟨PET.imp (CwR.pet_replC ((snd_all n).1 sc wx X g o x h1).pe hyz rfl (sup_not hs) hl) fun σ H Q q => repl_D q, rfl⟩
    · cases h
  · exact ⟨CwR.PET.of ((snd_all n).1 sc wx X g e ie h).pe, cE_star h⟩
theorem t_l (g : Good sx P N sc wx cls X) : ∀ {es : List Expr} {ies : Es}, cTl sx N n sc es = some ies → PAT X es (tEs (kx X) wx P ies)
  | [], ies, h => by cases h; exact PAT.imp pat_nil fun σ H Q q => nil_D q
  | e :: es, ies, h => by
    obtain ⟨x, h1, h⟩ := bind_of (show ((cTa sx N n sc e).bind fun x => (cTl sx N n sc es).map fun xs => Es.cons x xs) = some ies from h)
    obtain ⟨xs, h2, rfl⟩ := map_of h
    obtain ⟨p1, p2⟩ := t_a g h1
    exact PAT.imp (pat_cons p1 (t_l g h2) (star_not p2)) fun σ H Q q => cons_D q
theorem t_e (g : Good sx P N sc wx cls X) {e : Expr} {ie : E} (h : cTe sx N n sc e = some ie) : PET X e (tE (kx X) wx P ie) ∧ isComp e = false := by
  unfold cTe at h
  split at h
  · obtain ⟨ies, h1, rfl⟩ := map_of h
    exact ⟨PET.imp (pet_lst (t_l g h1)) fun σ H Q q => lst_D q, rfl⟩
  · obtain ⟨o, h0, h⟩ := bind_of h
    obtain ⟨x, h1, h⟩ := bind_of h
    obtain ⟨y, h2, rfl⟩ := map_of h
    have e := opO_of h0
    subst e
    refine ⟨PET.imp (CwR.pet_op (op_binD o) (CwR.PET.of ((snd_all n).1 sc wx X g _ x h1).pa) (PET.imp (pet_lst (t_l g h2)) fun σ H Q q => lst_D (tA_tE (e := .lst y) (fun i z => by cases z) q))) fun σ H Q q => ?_, rfl⟩
    obtain ⟨Z, β, F, ρ, S, rl, q⟩ := q
    simp only [ev] at q
    refine two_D (a := x) (b := .lst y) ⟨Z, β, F, ρ, S, rl, ?_⟩
    simp only [ev]
    exact q
  · cases h
theorem pst_set {i : Nat} {x : Str} {e : Expr} {te : TE} {pos' pos : Pos} (hN : X.N.Nodup) (hi : X.N[i]? = some x) (hx : Loc X.env.scope x) (he : PET X e te) (hs : swapsWith e (some (.Name x pos')) pos.line X.env = pure false) (hf : X.fn x = true ∨ X.env.scope.names.lookup x = some .local) :
    PST X (.Assign [.Name x pos'] e pos) (tAsg te (gName i)) := by
  intro pins s σ H D h0 I h
  refine wpAny_Assign_Name (thn (he pins s σ H _ h0 I h) fun v s1 ⟨y, H1, I1, r1, q1⟩ => ?_) hs
  exact store_ok I1 hN hi hx r1 (fun s2 I2 => ⟨_, H1, I2, q1⟩) hf
theorem PST.imp {st : Stmt} {t t' : TS} (h : PST X st t) (i : ∀ D σ H, t' D σ H → t D σ H) : PST X st t' := fun pins s σ H D h0 I q => h pins s σ H D h0 I (i D σ H q)
theorem PSsT.imp {st : List Stmt} {t t' : TS} (h : PSsT X st t) (i : ∀ D σ H, t' D σ H → t D σ H) : PSsT X st t' := fun pins s σ H D h0 I q => h pins s σ H D h0 I (i D σ H q)
theorem t_1 (g : GoodS sx P N sc wx cls X) {st : Stmt} {m : Sm} (h : cT1 sx N dx n sc st = some m) : PST X st (tS (kx X) wx P fu m) := by
  unfold cT1 at h
  split at h
  · rename_i x px e pos
    split at h
    · rename_i m' hm
      cases h
      obtain ⟨i, h0, hm⟩ := bind_of hm
      obtain ⟨y, h1, rfl⟩ := map_of hm
      obtain ⟨hl, hx⟩ := lsl_ok h0
      obtain ⟨l1, l2⟩ := g.loc hl
      obtain ⟨p1, p2⟩ := t_e g.toGood h1
      exact PST.imp (pst_set (by rw [g.hN]; exact g.nd) (by rw [g.hN]; exact hx) l1 p1 (sw_no p2) l2) fun D σ H q => asg_S q
    · exact PST.of ((snd_S n).1 sc wx X g _ m h)
  · exact PST.of ((snd_S n).1 sc wx X g _ m h)
theorem t_s (g : GoodS sx P N sc wx cls X) : ∀ {st : List Stmt} {m : Sms}, cTs sx N dx n sc st = some m → PSsT X st (tSs (kx X) wx P fu m)
  | [], m, h => by cases h; exact PSsT.imp CwR.psst_nil fun D σ H q => nil_S q
  | s :: r, m, h => by
    obtain ⟨x, h1, h⟩ := bind_of (show ((cT1 sx N dx n sc s).bind fun m => (cTs sx N dx n sc r).map fun y => Sms.cons m y) = some m from h)
    obtain ⟨y, h2, rfl⟩ := map_of h
    exact PSsT.imp (psst_cons (t_1 g h1) (t_s g h2)) fun D σ H q => cons_S q
theorem snd_B (g : GoodS sx P N sc wx cls X) {body : List Stmt} {m : Sms} (h : cB sx N dx n sc body = some m) : PSs X body (tSs (kx X) wx P fu m) := by
  unfold cB at h
  rcases ite_of h with ⟨_, h⟩ | ⟨_, h⟩
  · split at h
    · obtain ⟨i, h0, h⟩ := bind_of h
      obtain ⟨y, h1, rfl⟩ := map_of h
      obtain ⟨hl, hx⟩ := lsl_ok h0
      obtain ⟨l1, l2⟩ := g.loc hl
      refine PSs.imp (pss_str (by rw [g.hN]; exact g.nd) (by rw [g.hN]; exact hx) l1 (t_s (fu := fu) g h1) rfl l2) fun D σ H q => ?_
      have q := cons_S q
      obtain ⟨Z, β, F, ρ, S, rl, q⟩ := asg_S q
      exact const_D (fun F => .str _) ⟨Z, β, F, ρ, S, rl, q⟩
    · cases h
  · exact (snd_S n).2 sc wx X g _ _ h
end
end FO

set_option Elab.async false
set_option linter.all false
set_option maxHeartbeats 2000000
set_option maxRecDepth 10000
namespace FO
open PySem PySem.Spec PyProof.Rows L2
/-- one def, with its IR: its place (a global's name, or a class and a method), its names, what it calls -/
structure Df where
  at_ : Str × Option Str
  name : Str
  qual : Str
  ps : List Str
  N : List Str
  params : Arguments
  body : List Stmt
  scope : Scope
  dx : Dx
  fns : List (Str × Nat)
  mks : List (Str × Nat × Nat)
  mts : List (Str × Nat × Nat)
  lens : List (Str × Nat × Nat)
  flds : List (Str × Nat)
  ir : Sms
def Df.fn (d : Df) : Fn := ⟨d.ps.length, d.N.length, d.ir⟩
/-- the constants, by numbers -/
def gcU : Nat → Option PyData
  | 0 => some (.tuple [.str "a", .str "b", .str "tab", .str "blank", .str "back", .str "end"])
  | 1 => some (.int 40)
  | 2 => some (.int 4)
  | 3 => some (.tuple [.str "first", .str "short", .str "common"])
  | 4 => some (.tuple [.str "tab", .str "blank", .str "always"])
  | 5 => some (.tuple [.str "next", .str "stay"])
  | 6 => some (.tuple [.str "offer", .str "letter", .str "both"])
  | 7 => some (.int 40)
  | 8 => some (.int 100)
  | _ => none
/-- a program: defs by numbers, constants, exception classes -/
structure Pr where
  defs : List (Nat × Df)
  gcs : List (Str × Nat)
  exs : List Str
  cns : List (Nat × List Str)
  tb : Nat → Option Fn
def Pr.sx (p : Pr) (d : Df) : Sx := ⟨d.fns, p.gcs, p.exs, d.mks, d.mts, d.lens, d.flds⟩
abbrev Pr.gc (p : Pr) : Nat → Option PyData := gcU
/-- what is checked of a def's text -/
structure Df.Ok (p : Pr) (i : Nat) (d : Df) : Prop where
  tb : p.tb i = some d.fn
  sc : FnScope d.N d.ps d.scope
  ir : ∃ n, cB (p.sx d) d.N d.dx n d.scope d.body = some d.ir
  bd : ∀ (kV doc pm : Value) (an : Option Addr) (cdv ct : Value) (us : List Value), us.length = d.ps.length → bindArgs (PySem.W.fnOf d.name d.qual d.params d.body d.scope .none kV doc pm an cdv ct) ⟨us, []⟩ = pure (d.ps.zip us)
  fns : (d.fns.all fun q => (p.defs.lookup q.2).any fun d2 => decide (d2.at_ = (q.1, none))) = true
  mks : (d.mks.all fun q => decide (q.1 = clN.getD q.2.1 ("" : Str)) && ((p.cns.lookup q.2.1).isSome && (p.defs.lookup q.2.2).any fun d2 => decide (d2.at_ = (clN.getD q.2.1 ("" : Str), some ("__init__" : Str))))) = true
  mts : (d.mts.all fun q => (p.cns.lookup q.2.1).isSome && (p.defs.lookup q.2.2).any fun d2 => decide (d2.at_ = (clN.getD q.2.1 ("" : Str), some q.1))) = true
  lens : (d.lens.all fun q => (p.defs.lookup q.2.2).any fun d2 => decide (d2.at_ = (clN.getD q.2.1 ("" : Str), some ("__len__" : Str)))) = true
  flds : (d.flds.all fun q => (p.cns.lookup q.2).any fun l => l.contains q.1) = true
/-- what the head tells of the program -/
structure Pr.Says (p : Pr) (K : PySem.W.Frag) (mg : Str → Option Value) (cls : Nat → Value) : Prop where
  defs : ∀ (i : Nat) (d : Df), p.defs.lookup i = some d → ∃ a fd, FunD K d.name d.qual d.params d.body d.scope [] [] a fd ∧ (∀ x, d.at_ = (x, none) → mg x = some (.ref a)) ∧ a = He.fAd K d.at_
  meth : ∀ (i : Nat) (d : Df) (x m : Str), p.defs.lookup i = some d → d.at_ = (x, some m) → Meth K (He.ga K x) m (He.fAd K d.at_)
  cns : ∀ (c : Nat) (fs : List Str), p.cns.lookup c = some fs → Cls K (clA K c) ∧ mg (clN.getD c ("" : Str)) = some (.ref (clA K c)) ∧ Mk K (clA K c) (He.ma K (clA K c) "__init__") ∧ ∀ f ∈ fs, NoAttr K (clA K c) f
  free : ∀ x ∈ freeNames, mg x = none
  gcs : ∀ (i : Nat) (x : Str) (d : PyData), p.gcs.lookup x = some i → gcU i = some d → ∃ v u, mg x = some u ∧ RelV v u ∧ ∀ F, Dp K F v d
  cls : ∀ c, cls c = .ref (exA K c)
  exs : ∀ (c : Nat) (x : Str), p.exs[c]? = some x → (x == ("" : Str)) = false → x = exN.getD c ("" : Str) ∧ mg x = some (.ref (exA K c)) ∧ PySem.W.excIn K (exA K c) He.veBase "ValueError.__new__" = true ∧ PySem.W.keepIn K (.ref (exA K c)) = true ∧ PySem.W.subIn K (.ref (exA K c)) (.type "BaseException") = some true ∧ PySem.W.typeIn K (.ref (exA K c)) = some (.type "type") ∧ (x == ("__debug__" : Str)) = false
  exi : p.exs = exN → ∀ k, k < 8 → ExcC K (exA K k) ∧ PySem.W.kitOne K (.ref (exA K k)) (.type "ValueError") = some true ∧ ∀ c, c < 8 → PySem.W.kitOne K (.ref (exA K k)) (.ref (exA K c)) = some (exSub k c)
  exm : p.exs = exN → ∀ k c, k < 8 → c < 8 → PySem.W.exmOne K (.ref (exA K k)) (.ref (exA K c)) = some (exSub k c)
section
variable {P : Program} {w : World} {K : PySem.W.Frag} {mg : Str → Option Value} {base : Heap} {p : Pr} {cls : Nat → Value} {fu : Nat}
abbrev Pr.pg (p : Pr) (fu k : Nat) : Pg := pgAt p.gc p.tb fu k
/-- what a def promises, k calls deep -/
def Pr.Fns (p : Pr) (P : Program) (w : World) (K : PySem.W.Frag) (mg : Str → Option Value) (base : Heap) (cls : Nat → Value) (fu k : Nat) : Prop :=
  ∀ (i : Nat) (d : Df), p.defs.lookup i = some d → ∀ a fd, FunD K d.name d.qual d.params d.body d.scope [] [] a fd → FnOk P w K mg base (L2.CX P w) (2 * k) a fd d.ps (spF ⟨K, w⟩ cls (fnAt p.gc p.tb fu k i)) ∧ Binds K fd d.ps []
theorem mem_of_lookup {α β : Type} [BEq α] [LawfulBEq α] : ∀ {l : List (α × β)} {x : α} {y : β}, l.lookup x = some y → (x, y) ∈ l
  | [], _, _, h => by cases h
  | (a, b) :: r, x, y, h => by
    rw [List.lookup_cons] at h
    cases c : x == a with
    | true =>
      rw [c] at h
      cases h
      rw [eq_of_beq c]
      exact List.mem_cons_self
    | false =>
      rw [c] at h
      exact List.mem_cons_of_mem _ (mem_of_lookup h)
theorem Option.any_eq_true_iff_get_or_some {α : Type} {o : Option α} {f : α → Bool} (h : o.any f = true) : ∃ a, o = some a ∧ f a = true := by
  cases o with
  | none => cases h
  | some a => exact ⟨a, rfl, h⟩
theorem good_of (s : p.Says K mg cls) (fs : p.Fns P w K mg base cls fu k) {i : Nat} {d : Df} (ok : d.Ok p i) {f : Addr} {cdv : Value} {A : Around} {outer : List Env} {sh : Shared} {H : Hp} {E : XK} (hr : Room (2 * k + 1) (A.deeper (envOfC d.qual d.scope sh.heap.objs.size f cdv))) :
    GoodS (p.sx d) (p.pg fu k) d.N d.scope (fun c _ H => E (cls c) none H) cls (cxOf (L2.CX P w) P w K mg base d.N d.qual d.scope f cdv A outer sh H E) where
  hN := rfl
  nd := ok.sc.nd
  calm := rfl
  hu := by have := hr.un; show (A.deeper _).units + 65 < cLine; omega
  vis := fun x h => by
    show Vis d.scope x
    unfold Vis
    cases q : d.scope.names.lookup x with
    | none => rw [q] at h; cases h
    | some kk =>
      rw [q] at h
      cases kk with
      | «local» => exact .inl rfl
      | cell => exact .inr (.inl rfl)
      | free => exact .inr (.inr rfl)
      | _ => cases h
  gl := fun x h => by
    show d.scope.names.lookup x = some .globalImplicit
    cases q : d.scope.names.lookup x with
    | none => rw [q] at h; cases h
    | some kk =>
      rw [q] at h
      cases kk with
      | globalImplicit => rfl
      | _ => cases h
  cf := fun x h => h
  tk := ⟨fun c dd _ H => E c dd H, takes_of rfl rfl rfl rfl, fun c σ H h => h⟩
  free := s.free
  gcs := fun i x dd h1 h2 => s.gcs i x dd h1 h2
  exg := fun c x h1 h2 => by
    obtain ⟨_, e2, _⟩ := s.exs c x h1 h2
    exact ⟨by rw [s.cls c]; exact e2, s.cls c⟩
  exi := fun hf => s.exi (eq_of_beq hf)
  flds := fun c f h => by
    have hc := List.all_eq_true.mp ok.flds (f, c) (mem_of_lookup h)
    obtain ⟨l, e1, e2⟩ := Option.any_eq_true_iff_get_or_some hc
    obtain ⟨k1, _, _, k4⟩ := s.cns c l e1
    exact ⟨k1, k4 f (by simpa using e2)⟩
  mks := fun x c i h => by
    have hc := List.all_eq_true.mp ok.mks (x, c, i) (mem_of_lookup h)
    obtain ⟨hx, hc⟩ := Bool.and_eq_true_iff.mp hc
    obtain ⟨hn, hc⟩ := Bool.and_eq_true_iff.mp hc
    have hx : x = clN.getD c ("" : Str) := of_decide_eq_true hx
    obtain ⟨fs', hn⟩ := Option.isSome_iff_exists.mp hn
    obtain ⟨d2, e1, e2⟩ := Option.any_eq_true_iff_get_or_some hc
    have e2 : d2.at_ = (clN.getD c ("" : Str), some ("__init__" : Str)) := of_decide_eq_true e2
    obtain ⟨a, fd, F, _, ea⟩ := s.defs i d2 e1
    obtain ⟨F2, b⟩ := fs i d2 e1 a fd F
    obtain ⟨_, k2, k3, _⟩ := s.cns c fs' hn
    rw [e2] at ea
    subst ea
    exact ⟨2 * k, _, fd, d2.ps, F2, hr, by rw [hx]; exact k2, k3, b⟩
  mts := fun m c i h => by
    have hc := List.all_eq_true.mp ok.mts (m, c, i) (mem_of_lookup h)
    obtain ⟨hn, hc⟩ := Bool.and_eq_true_iff.mp hc
    obtain ⟨fs', hn⟩ := Option.isSome_iff_exists.mp hn
    obtain ⟨d2, e1, e2⟩ := Option.any_eq_true_iff_get_or_some hc
    have e2 : d2.at_ = (clN.getD c ("" : Str), some m) := of_decide_eq_true e2
    obtain ⟨a, fd, F, _, ea⟩ := s.defs i d2 e1
    obtain ⟨F2, b⟩ := fs i d2 e1 a fd F
    obtain ⟨k1, _⟩ := s.cns c fs' hn
    have km := s.meth i d2 _ _ e1 e2
    rw [← ea] at km
    exact ⟨2 * k, a, fd, d2.ps, F2, hr.mono (by omega), k1, km, b⟩
  lens := fun y c i h => by
    have hc := List.all_eq_true.mp ok.lens (y, c, i) (mem_of_lookup h)
    obtain ⟨d2, e1, e2⟩ := Option.any_eq_true_iff_get_or_some hc
    have e2 : d2.at_ = (clN.getD c ("" : Str), some ("__len__" : Str)) := of_decide_eq_true e2
    obtain ⟨a, fd, F, _, ea⟩ := s.defs i d2 e1
    obtain ⟨F2, b⟩ := fs i d2 e1 a fd F
    have km := s.meth i d2 _ _ e1 e2
    rw [← ea] at km
    exact ⟨2 * k, a, fd, d2.ps, F2, hr, km, b⟩
  fns := fun i x h => by
    have hm : (x, i) ∈ d.fns := mem_of_lookup h
    have hc := List.all_eq_true.mp ok.fns (x, i) hm
    obtain ⟨d2, e1, e2⟩ := Option.any_eq_true_iff_get_or_some hc
    have e2 : d2.at_ = (x, none) := of_decide_eq_true e2
    obtain ⟨a, fd, F, m, _⟩ := s.defs i d2 e1
    obtain ⟨F2, b⟩ := fs i d2 e1 a fd F
    exact ⟨2 * k, a, fd, d2.ps, F2, hr.mono (by omega), m x e2, F.kp, b⟩
  hsc := rfl
  hfn := fun _ => rfl
  hk := ok.sc.kind
  own := passes_of rfl
  hst := rfl
  hfr := rfl
  hex := rfl
  exm := fun hf k c hk hc => by
    rw [s.cls k, s.cls c]
    exact s.exm (eq_of_beq hf) k c hk hc
  exs := fun pn xe c x m j p1 p2 pos h hne hg => by
    obtain ⟨_, e2, e3, e4, e5, e6, e7⟩ := s.exs c x h hne
    rw [s.cls c]
    exact pmk_own (X := (cxOf (L2.CX P w) P w K mg base d.N d.qual d.scope f cdv A outer sh H E).tr pn xe) PySem.F.excBase_ValueError e3 e2 e4 (raises_own e5 e6) hg e7
theorem rl_start {β : List Addr} {F H : Hp} {S : Sto} {vs : List V} {ws : List W} {d : Df} (hl : ws.length = d.ps.length) (sub : Sub F H) (st : StOk ⟨K, w⟩ β F S H) (r : RepWs ⟨K, w⟩ β F vs ws) (hp : d.ps.length ≤ d.N.length) : Rl ⟨K, w⟩ ⟨β, F, H⟩ β F (startR d.fn ws) S (start d.N vs) H := by
  have hv := paired_len r
  have hlen : (start d.N vs).length = (startR d.fn ws).length := by
    unfold L2.start startR Df.fn
    simp only [List.length_append, List.length_map, List.length_replicate]
    omega
  have lt : ∀ {i : Nat} {s : Sl}, (startR d.fn ws)[i]? = some s → (∃ w, ws[i]? = some w ∧ s = .val w) ∨ s = .un := fun {i s} h => by
    unfold startR at h
    by_cases c : i < (ws.map Sl.val).length
    · rw [List.getElem?_append_left c, List.getElem?_map] at h
      obtain ⟨w, h1, rfl⟩ := map_of h
      exact .inl ⟨w, h1, rfl⟩
    · rw [List.getElem?_append_right (by omega)] at h
      have := List.eq_of_mem_replicate (List.mem_of_getElem? h)
      exact .inr this
  refine ⟨hlen, sub, Up.refl, st, fun i w h => ?_, fun i xs h => ?_, fun i j xs ys a hij h1 h2 h3 h4 => ?_⟩
  · rcases lt h with ⟨w', h1, e⟩ | e
    · cases e
      obtain ⟨v, e1, e2⟩ := paired_get r h1
      refine ⟨v, ?_, e2⟩
      unfold L2.start
      have hi : i < (vs.map some).length := by
        rw [List.length_map]
        exact (List.getElem?_eq_some_iff.mp e1).1
      rw [List.getElem?_append_left hi, List.getElem?_map, e1]
      rfl
    · cases e
  · rcases lt h with ⟨w', h1, e⟩ | e <;> cases e
  · rcases lt h1 with ⟨w', h1, e⟩ | e <;> cases e
/-- every def keeps its promise -/
theorem fns_all (s : p.Says K mg cls) (ok : ∀ (i : Nat) (d : Df), p.defs.lookup i = some d → d.Ok p i) : ∀ k : Nat, p.Fns P w K mg base cls fu k
  | 0 => fun i d h a fd F => by
    have no : ∀ vs H Q E, ¬ spF ⟨K, w⟩ cls (fnAt p.gc p.tb fu 0 i) vs H Q E := fun vs H Q E ⟨_, _, _, _, _, _, _, h⟩ => h
    exact ⟨⟨fun vs H Q E q => (no _ _ _ _ q).elim, fun A outer sh H args us vs Q E hr e0 hb hv q => (no _ _ _ _ q).elim⟩, F.bindsN (ok i d h).bd⟩
  | k + 1 => fun i d h a fd F => by
    have ih := fns_all s ok k
    have okd := ok i d h
    have et : p.tb i = some d.fn := okd.tb
    have hpl : d.ps.length ≤ d.N.length := by have := congrArg List.length okd.sc.pre; rw [List.length_take] at this; omega
    have ef : ∀ ws S, fnAt p.gc p.tb fu (k + 1) i ws S = callB (p.pg fu k) fu d.fn ws S := fun ws S => by simp only [fnAt, et]
    refine ⟨F.ok okd.sc (fun vs H Q E q => ?_) (k := 2 * k + 1) (fun cdv A outer sh H vs Q E hr q => ?_), F.bindsN okd.bd⟩
    · obtain ⟨β, F', S, ws, s1, s2, s3, q⟩ := q
      rw [ef] at q
      unfold callB at q
      by_cases c : ws.length = d.fn.np
      · rw [paired_len s3]; exact c
      · rw [if_neg c] at q; exact q.elim
    · obtain ⟨n, hir⟩ := okd.ir
      have g := good_of (A := A) (outer := outer) (sh := sh) (H := H) (E := E) (f := a) (cdv := cdv) s ih okd hr
      refine ⟨_, snd_B (fu := fu) g hir, ?_⟩
      obtain ⟨β, F', S, ws, s1, s2, s3, q⟩ := q
      rw [ef] at q
      unfold callB at q
      by_cases c : ws.length = d.fn.np
      · rw [if_pos c] at q
        refine ⟨⟨β, F', H⟩, β, F', startR d.fn ws, S, rl_start c s1 s2 s3 hpl, ?_⟩
        have q : match (match exSs (p.pg fu k) fu d.ir (startR d.fn ws) S with
          | .next _ S' => Res.ok (W.d .none) S'
          | .ret w S' => .ok w S'
          | .ex c _ S' => .ex c S'
          | .bad => .bad) with
          | .ok y S' => ∀ β' F2 v H', Up β F' H β' F2 H' → Sub F2 H' → StOk ⟨K, w⟩ β' F2 S' H' → RepW ⟨K, w⟩ β' F2 v y → Q v H'
          | .ex c S' => ∀ β' F2 H', Up β F' H β' F2 H' → Sub F2 H' → StOk ⟨K, w⟩ β' F2 S' H' → E (cls c) none H'
          | .bad => False := q
        show PwS ⟨K, w⟩ ⟨β, F', H⟩ _ _ F' (exSs (p.pg fu k) fu d.ir (startR d.fn ws) S)
        cases er : exSs (p.pg fu k) fu d.ir (startR d.fn ws) S with
        | next ρ' S' =>
          rw [er] at q
          exact fun β' F2 σ' H' _ r => q β' F2 .non H' r.up r.fh r.st Dp.non
        | ret w' S' =>
          rw [er] at q
          exact fun β' F2 v H' u sb st rw' => q β' F2 v H' u sb st rw'
        | ex c' ρ' S' =>
          rw [er] at q
          exact fun β' F2 σ' H' _ r => q β' F2 H' r.up r.fh r.st
        | bad => rw [er] at q; exact q
      · rw [if_neg c] at q; exact q.elim
/-- the law itself -/
theorem law_ok {i : Nat} {lv n : Nat} (h : ∀ ns : List Int, ns.length ≤ n → ∃ S', fnAt p.gc p.tb fu lv i [.d (.list (ns.map PyData.int))] [] = .ok (.d (.bool true)) S') (H : Hp) (a : Addr) (ns : List Int) (hl : ns.length ≤ n) (hS : SqL K H a (ns.map V.int)) :
    spF ⟨K, w⟩ cls (fnAt p.gc p.tb fu lv i) [.ref a] H (fun v _ => v = .bl true) fun _ _ _ => False := by
  obtain ⟨S', e⟩ := h ns hl
  have dps : ∀ {F : Hp} (ns : List Int), DpAll K F (ns.map V.int) (ns.map PyData.int) := fun {F} ns => by
    induction ns with
    | nil => exact .nil
    | cons n r ih => exact .cons (.int n) ih
  refine ⟨[], H, [], [.d (.list (ns.map PyData.int))], Sub.refl H, ⟨rfl, List.nodup_nil, fun n a c h => by simp at h, fun n a c h => by simp at h⟩, .cons (show Dp K H (.ref a) (.list (ns.map PyData.int)) from .lst hS (dps ns)) .nil, ?_⟩
  rw [e]
  exact fun β' F' v H' _ _ _ r => by cases (show Dp K F' v (.bool true) from r); rfl
end
end FO

set_option Elab.async false
set_option linter.all false
set_option maxHeartbeats 2000000
set_option maxRecDepth 10000
namespace FO
open PySem PySem.Spec PyProof.Rows L2
/-! ### the module's constants -/
def scV : Value → PyData → Option V
  | .none, .none => some .non
  | .bool b, .bool c => if b == c then some (.bl c) else none
  | .int i _, .int j => if i = j then some (.int j) else none
  | .str x _, .str y => if x = y then some (.str y) else none
  | _, _ => none
def itV : List Value → List PyData → Option (List V)
  | [], [] => some []
  | u :: us, d :: ds => (scV u d).bind fun v => (itV us ds).map fun vs => v :: vs
  | _, _ => none
def dvV (K : PySem.W.Frag) (u : Value) : PyData → Option V
  | .tuple ds => (match u with
    | .ref a => (match K.lookup a with
      | some ⟨.type c, _, .seq its _, _⟩ => if c = "tuple" ∧ its.size ≤ sizeLine then (itV its.toList ds).map fun _ => .ref a else none
      | _ => none)
    | _ => none)
  | d => scV u d
theorem scV_ok {u : Value} {d : PyData} {v : V} (h : scV u d = some v) : RelV v u ∧ ∀ (K : PySem.W.Frag) F, Dp K F v d := by
  cases u <;> cases d <;> first
    | (cases h; done)
    | (cases h; exact ⟨rfl, fun _ _ => .non⟩)
    | skip
  · rename_i b c
    have h : (if (b == c) = true then some (V.bl c) else none) = some v := h
    rcases ite_of h with ⟨e, h⟩ | ⟨_, h⟩
    · cases h
      have e : b = c := eq_of_beq e
      subst e
      exact ⟨rfl, fun _ _ => .bl _⟩
    · cases h
  · rename_i i t j
    have h : (if i = j then some (V.int j) else none) = some v := h
    rcases ite_of h with ⟨e, h⟩ | ⟨_, h⟩
    · cases h; subst e; exact ⟨⟨t, rfl⟩, fun _ _ => .int _⟩
    · cases h
  · rename_i x t y
    have h : (if x = y then some (V.str y) else none) = some v := h
    rcases ite_of h with ⟨e, h⟩ | ⟨_, h⟩
    · cases h; subst e; exact ⟨⟨t, rfl⟩, fun _ _ => .str _⟩
    · cases h
theorem itV_ok : ∀ {us : List Value} {ds : List PyData} {vs : List V}, itV us ds = some vs → Vals vs us ∧ ∀ (K : PySem.W.Frag) F, DpAll K F vs ds
  | [], [], vs, h => by cases h; exact ⟨.nil, fun _ _ => .nil⟩
  | u :: us, d :: ds, vs, h => by
    obtain ⟨v, h1, h⟩ := bind_of (show ((scV u d).bind fun v => (itV us ds).map fun vs => v :: vs) = some vs from h)
    obtain ⟨vs', h2, rfl⟩ := map_of h
    obtain ⟨r1, d1⟩ := scV_ok h1
    obtain ⟨r2, d2⟩ := itV_ok h2
    exact ⟨.cons r1 r2, fun K F => .cons (d1 K F) (d2 K F)⟩
  | [], _ :: _, _, h => by cases h
  | _ :: _, [], _, h => by cases h
theorem dvV_ok {K : PySem.W.Frag} {u : Value} {d : PyData} {v : V} (h : dvV K u d = some v) : RelV v u ∧ ∀ F, Dp K F v d := by
  by_cases ht : ∃ ds, d = .tuple ds
  · obtain ⟨ds, rfl⟩ := ht
    cases u with
    | ref a =>
      have h : (match K.lookup a with
        | some ⟨.type c, _, .seq its _, _⟩ => if c = "tuple" ∧ its.size ≤ sizeLine then (itV its.toList ds).map fun _ => V.ref a else none
        | _ => none) = some v := h
      cases q : K.lookup a with
      | none => rw [q] at h; cases h
      | some o =>
        obtain ⟨oc, od, dt, osl⟩ := o
        rw [q] at h
        cases oc with
        | type c =>
          cases dt with
          | seq its n =>
            rcases ite_of (show (if c = "tuple" ∧ its.size ≤ sizeLine then (itV its.toList ds).map fun _ => V.ref a else none) = some v from h) with ⟨⟨e1, e2⟩, h⟩ | ⟨_, h⟩
            · obtain ⟨vs, h1, rfl⟩ := map_of h
              obtain ⟨r, dp⟩ := itV_ok h1
              exact ⟨rfl, fun F => .tup (.inr ⟨_, its, n, q, by rw [e1], rfl, e2, r⟩) (dp K F)⟩
            · cases h
          | _ => cases h
        | _ => cases dt <;> cases h
    | _ => cases h
  · have h : scV u d = some v := by
      cases d <;> first | exact h | exact absurd ⟨_, rfl⟩ ht
    obtain ⟨r, dp⟩ := scV_ok h
    exact ⟨r, dp K⟩
def cstB (K : PySem.W.Frag) (x : Str) (d : PyData) : Bool := match PySem.W.nsIn K mainGlobals x with
  | some (some u) => (dvV K u d).isSome
  | _ => false
theorem cstB_ok {K : PySem.W.Frag} {h : Heap} {mg : Str → Option Value} (X : K.In h) (G : h.Ns mainGlobals mg) {x : Str} {d : PyData} (c : cstB K x d = true) : ∃ v u, mg x = some u ∧ RelV v u ∧ ∀ F, Dp K F v d := by
  unfold cstB at c
  cases e : PySem.W.nsIn K mainGlobals x with
  | none => rw [e] at c; cases c
  | some o =>
    rw [e] at c
    cases o with
    | none => cases c
    | some u =>
      obtain ⟨v, hv⟩ := Option.isSome_iff_exists.mp c
      obtain ⟨r, dp⟩ := dvV_ok hv
      exact ⟨v, u, PySem.W.mg_of X G e, r, dp⟩
/-! ### the head -/
def Df.dd (d : Df) : He.DefD := ⟨d.at_, d.name, d.qual, d.params, d.body, d.scope, [], []⟩
def Pr.fd (p : Pr) : List He.DefD := p.defs.map fun q => q.2.dd
def Df.fa (d : Df) : He.Fa := match d.at_ with
  | (x, none) => .glo x
  | (x, some m) => .meth x m
def Pr.xs (p : Pr) : List Str := p.exs.filter fun x => !(x == ("" : Str))
def clF (q : Nat × List Str) : List He.Fa := .cls (clN.getD q.1 ("" : Str)) :: .glo (clN.getD q.1 ("" : Str)) :: .mkr (clN.getD q.1 ("" : Str)) :: q.2.map (He.Fa.noat (clN.getD q.1 ("" : Str)))
def Pr.fa (p : Pr) : List He.Fa := (p.defs.map fun q => q.2.fa) ++ ((freeNames.map He.Fa.free) ++ ((p.xs.map He.Fa.glo) ++ ((p.xs.map He.Fa.exc) ++ p.cns.flatMap clF)))
/-- what isinstance and except ask of the exception classes -/
def excB (K : PySem.W.Frag) (k : Nat) : Bool :=
  He.eqO (PySem.W.findIn K (.ref (exA K k)) "__getattribute__") (some (some (.builtin "BaseException.__getattribute__"))) && (He.eqO (PySem.W.findIn K (.ref (exA K k)) "__getattr__") (some none)
  && (decide (PySem.W.subIn K (.ref (exA K k)) (.type "BaseException") = some true) && (PySem.W.hasDictIn K (exA K k) && (He.eqO (PySem.W.findIn K (.ref (exA K k)) "__class__") (some (some (.builtin "object.__class__")))
  && (He.eqO (PySem.W.specialIn K (.builtin "object.__class__") "__get__") (some (some (.builtin "getset_descriptor.__get__"))) && (decide (PySem.W.takesIn K (.builtin "object.__class__") = some true)
  && (decide (PySem.W.mroIn K (exA K k) (.type "object") = some true) && (decide (PySem.W.kitOne K (.ref (exA K k)) (.type "ValueError") = some true)
  && ((List.range 8).all fun c => decide (PySem.W.kitOne K (.ref (exA K k)) (.ref (exA K c)) = some (exSub k c)) && decide (PySem.W.exmOne K (.ref (exA K k)) (.ref (exA K c)) = some (exSub k c)))))))))))
theorem excB_ok {K : PySem.W.Frag} {k : Nat} (h : excB K k = true) : ExcC K (exA K k) ∧ PySem.W.kitOne K (.ref (exA K k)) (.type "ValueError") = some true ∧ ∀ c, c < 8 → PySem.W.kitOne K (.ref (exA K k)) (.ref (exA K c)) = some (exSub k c) ∧ PySem.W.exmOne K (.ref (exA K k)) (.ref (exA K c)) = some (exSub k c) := by
  unfold excB at h
  obtain ⟨h1, h⟩ := He.ba h
  obtain ⟨h2, h⟩ := He.ba h
  obtain ⟨h3, h⟩ := He.ba h
  obtain ⟨h4, h⟩ := He.ba h
  obtain ⟨h5, h⟩ := He.ba h
  obtain ⟨h6, h⟩ := He.ba h
  obtain ⟨h7, h⟩ := He.ba h
  obtain ⟨h8, h⟩ := He.ba h
  obtain ⟨h9, h⟩ := He.ba h
  refine ⟨⟨He.eqO_ok h1, He.eqO_ok h2, of_decide_eq_true h3, h4, He.eqO_ok h5, He.eqO_ok h6, of_decide_eq_true h7, of_decide_eq_true h8⟩, of_decide_eq_true h9, fun c hc => ?_⟩
  obtain ⟨e1, e2⟩ := He.ba (List.all_eq_true.mp h c (List.mem_range.mpr hc))
  exact ⟨of_decide_eq_true e1, of_decide_eq_true e2⟩
def gcB (K : PySem.W.Frag) (q : Str × Nat) : Bool := match gcU q.2 with
  | some d => cstB K q.1 d
  | none => true
abbrev AlC : Type := He.AlD × Bool
def Pr.obs (p : Pr) (K : PySem.W.Frag) : AlC := (He.obsD p.fa p.fd K, p.gcs.all (gcB K) && (!(p.exs == exN) || (List.range 8).all (excB K)))
def Pr.val (p : Pr) : AlC := (He.valD p.fd, true)
def Pr.obsG (p : Pr) (n : Nat) (g : Addr → Option Obj) : AlC := p.obs (He.frG g (He.asD g n))
def Pr.hook (p : Pr) (n : Nat) : PySem.W.Hook where
  α := AlC
  obs := fun s => p.obsG n s.heap.get?
  val := fun _ => p.val
  says := fun _ h => ∃ K : PySem.W.Frag, K.In h ∧ p.obs K = p.val
  of := fun _ _ e => ⟨_, He.frG_in, e⟩
  keeps := fun _ _ _ ⟨K, hK, c⟩ k => ⟨K, PySem.W.Frag.In.keeps hK k, c⟩
theorem Pr.obsG_eq {p : Pr} {n : Nat} {g : Addr → Option Obj} {s : Shared} (h : ∀ a, g a = s.heap.get? a) : p.obsG n g = (p.hook n).obs s := by
  have e : g = s.heap.get? := funext h
  rw [e]; rfl
def Pr.cls (p : Pr) (K : PySem.W.Frag) (c : Nat) : Value := .ref (exA K c)
/-- the program's own lists agree with the numbers -/
def Pr.fit (p : Pr) : Bool := (p.exs.all fun x => !(x == ("__debug__" : Str))) && ((List.range p.exs.length).all fun c => p.exs.getD c ("" : Str) == ("" : Str) || p.exs.getD c ("" : Str) == exN.getD c ("" : Str))
theorem says_of {p : Pr} {K : PySem.W.Frag} {h : Heap} {mg : Str → Option Value} (X : K.In h) (G : h.Ns mainGlobals mg) (hd : p.fit = true) (c : p.obs K = p.val) : p.Says K mg (p.cls K) := by
  have c1 : He.SaysD p.fa p.fd K := congrArg (fun z : AlC => z.1) c
  have c2 : (p.gcs.all (gcB K) && (!(p.exs == exN) || (List.range 8).all (excB K))) = true := congrArg (fun z : AlC => z.2) c
  obtain ⟨c3, c4⟩ := He.ba c2
  obtain ⟨d1, d2⟩ := He.ba hd
  have full : p.exs = exN → ∀ k, k < 8 → excB K k = true := fun e k hk => by
    rw [e, beq_self_eq_true] at c4
    exact List.all_eq_true.mp c4 k (List.mem_range.mpr hk)
  have fact : ∀ f ∈ p.fa, f.ok K = true := fun f hf => by
    obtain ⟨i, hi, e⟩ := List.mem_iff_getElem.mp hf
    exact c1.fact i (f := f) (by rw [List.getElem?_eq_getElem hi, e])
  have exfit : ∀ (c : Nat) (x : Str), p.exs[c]? = some x → (x == ("" : Str)) = false → x = exN.getD c ("" : Str) := fun c x hx hne => by
    have hl := (List.getElem?_eq_some_iff.mp hx).1
    have := List.all_eq_true.mp d2 c (List.mem_range.mpr hl)
    have eg : p.exs.getD c ("" : Str) = x := by rw [List.getD_eq_getElem?_getD, hx]; rfl
    rw [eg, hne, Bool.false_or] at this
    exact eq_of_beq this
  have cl : ∀ (c : Nat) (fs : List Str), p.cns.lookup c = some fs → ∀ f ∈ clF (c, fs), f.ok K = true := fun c fs h f hf =>
    fact f (List.mem_append_right _ (List.mem_append_right _ (List.mem_append_right _ (List.mem_append_right _ (List.mem_flatMap.mpr ⟨(c, fs), mem_of_lookup h, hf⟩)))))
  refine ⟨fun i d hi => ?_, fun i d x m hi hx => ?_, fun c fs h => ⟨He.cls_ok (cl c fs h _ (by simp [clF])), He.glo_ok X G (cl c fs h _ (by simp [clF])), He.mkr_ok (cl c fs h _ (by simp [clF])), fun f hf => He.noat_ok (cl c fs h _ (by simp [clF, hf]))⟩, fun x hx => ?_, fun i x d hi hg => ?_, fun c => rfl, fun c x hx hne => ?_, fun e k hk => ?_, fun e k c hk hc => ?_⟩
  · have hm : (i, d) ∈ p.defs := mem_of_lookup hi
    obtain ⟨j, hj, ej⟩ := List.mem_iff_getElem.mp hm
    obtain ⟨fd, F⟩ := c1.def_ j (d := d.dd) (by show (p.defs.map fun q => q.2.dd)[j]? = _; rw [List.getElem?_map, List.getElem?_eq_getElem hj, ej]; rfl)
    refine ⟨He.fAd K d.at_, fd, F, fun x hx => ?_, rfl⟩
    have hf : d.fa = .glo x := by unfold Df.fa; rw [hx]
    have := fact d.fa (List.mem_append_left _ (List.mem_map.mpr ⟨(i, d), hm, rfl⟩))
    rw [hf] at this
    rw [hx]
    exact He.glo_ok X G this
  · have hm : (i, d) ∈ p.defs := mem_of_lookup hi
    have hf : d.fa = .meth x m := by unfold Df.fa; rw [hx]
    have := fact d.fa (List.mem_append_left _ (List.mem_map.mpr ⟨(i, d), hm, rfl⟩))
    rw [hf] at this
    rw [hx]
    exact He.meth_ok this
  · exact He.free_ok X G (fact (.free x) (List.mem_append_right _ (List.mem_append_left _ (List.mem_map.mpr ⟨x, hx, rfl⟩))))
  · have hb := List.all_eq_true.mp c3 (x, i) (mem_of_lookup hi)
    unfold gcB at hb
    rw [hg] at hb
    exact cstB_ok X G hb
  · have hm0 := List.mem_of_getElem? hx
    have hm : x ∈ p.xs := List.mem_filter.mpr ⟨hm0, by rw [hne]; rfl⟩
    have f1 := fact (.glo x) (List.mem_append_right _ (List.mem_append_right _ (List.mem_append_left _ (List.mem_map.mpr ⟨x, hm, rfl⟩))))
    have f2 := fact (.exc x) (List.mem_append_right _ (List.mem_append_right _ (List.mem_append_right _ (List.mem_append_left _ (List.mem_map.mpr ⟨x, hm, rfl⟩)))))
    obtain ⟨e1, e2, e3, e4⟩ := He.exc_ok f2
    have ex := exfit c x hx hne
    have ea : exA K c = He.ga K x := by unfold exA; rw [← ex]
    rw [ea]
    refine ⟨ex, He.glo_ok X G f1, e1, e2, e3, e4, ?_⟩
    have := List.all_eq_true.mp d1 x hm0
    simpa using this
  · obtain ⟨e1, e2, e3⟩ := excB_ok (full e k hk)
    exact ⟨e1, e2, fun c hc => (e3 c hc).1⟩
  · exact ((excB_ok (full e k hk)).2.2 c hc).2
/-! ### the law's def, by itself -/
theorem fn_only {P : Program} {w : World} {K : PySem.W.Frag} {mg : Str → Option Value} {base : Heap} {k : Nat} {f : Addr} {fd : FuncData} {ps : List Str} {sp : Sp} (F : FnOk P w K mg base (L2.CX P w) k f fd ps sp) :
    FnOk P w K mg base (fun _ _ _ _ _ _ => False) k f fd ps (fun vs H Q _ => sp vs H Q fun _ _ _ => False) := by
  refine ⟨fun vs H Q E q => F.len vs H Q _ q, fun A outer s H args us vs Q E hr e0 hb hv q => codeAny_mono (F.run A outer s H args us vs Q _ hr e0 hb hv q) fun r s' hq => ?_⟩
  cases r with
  | error e =>
    obtain ⟨_, _, _, _, _, _, _, _, _, _, _, _, z⟩ := hq
    exact z
  | ok fl => cases fl <;> exact hq
end FO

set_option Elab.async false
set_option linter.all false
set_option maxRecDepth 100000
set_option maxHeartbeats 0
namespace FO
open PySem PySem.Spec PyProof.Rows L2
def top (i : Nat) : Stmt := PySem.Challenge.pw_fieldoffers_k03_whole_records.main.body.getD i (.Pass ⟨0, 0, 0, 0⟩)
def topC (i j : Nat) : Stmt := match top i with
  | .ClassDef _ _ _ body _ _ _ _ _ _ _ => body.getD j (.Pass ⟨0, 0, 0, 0⟩)
  | s => s
def ir_all_keys : Sms := (.cons (.ret (.bi .list (.g 0))) .nil)
def fn_all_keys : Fn := ⟨0, 0, ir_all_keys⟩
def lb_texts_of_1 : Sms := (.cons (.aug 3 .add (.comp (.nm 5) (.e (.c (.str "ab"))) (.c (.bool true)) (.bin .add (.v 4) (.v 5)))) .nil)
def lb_texts_of_2 : Sms := (.cons (.own 3 (.lst .nil)) (.cons (.for_ (.nm 4) (.e (.v 1)) lb_texts_of_1) (.cons (.asg (.nm 1) (.v 3)) .nil)))
def ir_texts_of : Sms := (.cons (.asg (.nm 1) (.lst (.cons (.c (.str "")) .nil))) (.cons (.for_ (.nm 2) (.rng (.c (.int 0)) (.v 0)) lb_texts_of_2) (.cons (.ret (.v 1)) .nil)))
def fn_texts_of : Fn := ⟨1, 6, ir_texts_of⟩
def lb_all_texts_1 : Sms := (.cons (.aug 0 .add (.call 11 (.cons (.v 1) .nil))) .nil)
def ir_all_texts : Sms := (.cons (.own 0 (.lst .nil)) (.cons (.for_ (.nm 1) (.rng (.c (.int 1)) (.bin .add (.g 2) (.c (.int 1)))) lb_all_texts_1) (.cons (.ret (.v 0)) .nil)))
def fn_all_texts : Fn := ⟨0, 2, ir_all_texts⟩
def ir_states_along : Sms := (.cons (.expr (.call 24 (.cons (.v 0) .nil))) (.cons (.expr (.call 10 (.cons (.v 1) .nil))) (.cons (.expr (.call 5 (.cons (.v 2) .nil))) (.cons (.ret (.call 25 (.cons (.v 0) (.cons (.v 1) (.cons (.v 2) .nil))))) .nil))))
def fn_states_along : Fn := ⟨3, 3, ir_states_along⟩
def ir_state_after : Sms := (.cons (.ret (.ix (.call 28 (.cons (.v 0) (.cons (.v 1) (.cons (.v 2) .nil)))) (.neg (.c (.int 1))))) .nil)
def fn_state_after : Fn := ⟨3, 3, ir_state_after⟩
def ir_put_in : Sms := (.cons (.ret (.comp (.nm 3) (.e (.call 28 (.cons (.v 0) (.cons (.v 1) (.cons (.v 2) .nil))))) (.cmp .ne (.ix (.v 3) (.c (.int 4))) (.c (.str ""))) (.ix (.v 3) (.c (.int 4))))) .nil)
def fn_put_in : Fn := ⟨3, 4, ir_put_in⟩
def ir__law_keys : Sms := (.cons (.ret (.lst (.cons (.c (.str "a")) (.cons (.c (.str "b")) (.cons (.c (.str "tab")) (.cons (.c (.str "blank")) (.cons (.c (.str "back")) (.cons (.c (.str "end")) .nil)))))))) .nil)
def fn__law_keys : Fn := ⟨0, 0, ir__law_keys⟩
def ir_check_wanted : Sms := (.cons (.iff (.not (.call 7 (.cons (.v 0) (.cons (.c (.int 1)) (.cons (.g 2) .nil))))) (.cons (.raise 2) .nil) .nil) .nil)
def fn_check_wanted : Fn := ⟨1, 1, ir_check_wanted⟩
def ir_check_ending : Sms := (.cons (.iff (.or (.not (.isi (.v 0) .str)) (.cmp .notin (.v 0) (.tup (.cons (.c (.str "blank")) (.cons (.c (.str "end")) .nil))))) (.cons (.raise 3) .nil) .nil) .nil)
def fn_check_ending : Fn := ⟨1, 1, ir_check_ending⟩
def ir_plainly : Sms := (.cons (.ret (.ix (.ix (.call 25 (.cons (.v 0) (.cons (.v 1) (.cons (.bin .add (.bi .list (.v 2)) (.lst (.cons (.v 3) .nil))) .nil)))) (.neg (.c (.int 1)))) (.c (.int 4)))) .nil)
def fn_plainly : Fn := ⟨4, 4, ir_plainly⟩
def ir_typed : Sms := (.cons (.expr (.call 24 (.cons (.v 0) .nil))) (.cons (.expr (.call 10 (.cons (.v 1) .nil))) (.cons (.expr (.call 47 (.cons (.v 2) .nil))) (.cons (.expr (.call 48 (.cons (.v 3) .nil))) (.cons (.ret (.call 49 (.cons (.v 0) (.cons (.v 1) (.cons (.v 2) (.cons (.v 3) .nil)))))) .nil)))))
def fn_typed : Fn := ⟨4, 4, ir_typed⟩
def ir_wrongs : Sms := (.cons (.expr (.call 24 (.cons (.v 0) .nil))) (.cons (.expr (.call 10 (.cons (.v 1) .nil))) (.cons (.expr (.call 48 (.cons (.v 2) .nil))) (.cons (.ret (.comp (.nm 3) (.e (.call 12 .nil)) (.cmp .ne (.call 49 (.cons (.v 0) (.cons (.v 1) (.cons (.v 3) (.cons (.v 2) .nil))))) (.v 3)) (.v 3))) .nil))))
def fn_wrongs : Fn := ⟨3, 4, ir_wrongs⟩
def ir_first_wrong : Sms := (.cons (.asg (.nm 3) (.call 51 (.cons (.v 0) (.cons (.v 1) (.cons (.v 2) .nil))))) (.cons (.iff (.cmp .eq (.v 3) (.lst .nil)) (.cons (.raise 7) .nil) .nil) (.cons (.ret (.ix (.v 3) (.c (.int 0)))) .nil)))
def fn_first_wrong : Fn := ⟨3, 4, ir_first_wrong⟩
def ir__law_error : Sms := (.cons (.asg (.nm 1) (.lst (.cons (.isx (.v 0) 1) (.cons (.isx (.v 0) 2) (.cons (.isx (.v 0) 3) (.cons (.isx (.v 0) 5) .nil)))))) (.cons (.asg (.nm 1) (.bin .add (.v 1) (.lst (.cons (.isx (.v 0) 4) (.cons (.isx (.v 0) 6) (.cons (.isx (.v 0) 7) .nil)))))) (.cons (.iff (.or (.cmp .ne (.bm .count (.v 1) (.c (.bool true))) (.c (.int 1))) (.or (.not (.isx (.v 0) 0)) (.not (.isv (.v 0))))) (.cons (.ret (.c (.str "odd"))) .nil) .nil) (.cons (.ret (.ix (.lst (.cons (.c (.str "way")) (.cons (.c (.str "words")) (.cons (.c (.str "keys")) (.cons (.c (.str "views")) (.cons (.c (.str "number")) (.cons (.c (.str "text")) (.cons (.c (.str "none")) .nil)))))))) (.bm .index (.v 1) (.c (.bool true))))) .nil))))
def fn__law_error : Fn := ⟨1, 2, ir__law_error⟩
def ir__law_call : Sms := (.cons (.asg (.nm 3) (.c (.none))) (.cons (.asg (.nm 4) (.c (.none))) (.cons (.try_ (.cons (.asg (.nm 3) (.call 52 (.cons (.v 0) (.cons (.v 1) (.cons (.v 2) .nil))))) .nil) 0 5 4) (.cons (.ret (.ife (.cmp .is_ (.v 4) (.c (.none))) (.v 3) (.call 53 (.cons (.v 4) .nil)))) .nil))))
def fn__law_call : Fn := ⟨3, 6, ir__law_call⟩
def ir_check_key : Sms := (.cons (.iff (.not (.call 3 (.cons (.v 0) .nil))) (.cons (.raise 3) .nil) .nil) .nil)
def fn_check_key : Fn := ⟨1, 1, ir_check_key⟩
def ir_Desk___init__ : Sms := (.cons (.expr (.call 24 (.cons (.v 1) .nil))) (.cons (.expr (.call 10 (.cons (.v 2) .nil))) (.cons (.expr (.call 2 (.cons (.v 3) .nil))) (.cons (.setf 0 (.v 0) "way" (.v 1)) (.cons (.setf 0 (.v 0) "sight" (.v 3)) (.cons (.setf 0 (.v 0) "line" (.newL (.lst .nil))) (.cons (.setf 0 (.v 0) "states" (.newL (.lst (.cons (.call 13 (.cons (.v 2) .nil)) .nil)))) .nil)))))))
def fn_Desk___init__ : Fn := ⟨4, 4, ir_Desk___init__⟩
def ir_Desk___len__ : Sms := (.cons (.ret (.bi .len (.fld 0 (.v 0) "line"))) .nil)
def fn_Desk___len__ : Fn := ⟨1, 1, ir_Desk___len__⟩
def ir_Desk_press : Sms := (.cons (.expr (.call 56 (.cons (.v 1) .nil))) (.cons (.iff (.cmp .eq (.bi .len (.fld 0 (.v 0) "line")) (.g 8)) (.cons (.raise 4) .nil) .nil) (.cons (.appE (.fld 0 (.v 0) "states") (.call 20 (.cons (.fld 0 (.v 0) "way") (.cons (.ix (.fld 0 (.v 0) "states") (.neg (.c (.int 1)))) (.cons (.v 1) .nil))))) (.cons (.appE (.fld 0 (.v 0) "line") (.v 1)) (.cons (.ret (.mc 0 60 "view" (.v 0) .nil)) .nil)))))
def fn_Desk_press : Fn := ⟨2, 2, ir_Desk_press⟩
def ir_Desk_view : Sms := (.cons (.ret (.call 21 (.cons (.fld 0 (.v 0) "way") (.cons (.ix (.fld 0 (.v 0) "states") (.neg (.c (.int 1)))) (.cons (.fld 0 (.v 0) "sight") .nil))))) .nil)
def fn_Desk_view : Fn := ⟨1, 1, ir_Desk_view⟩
def ir_Desk_state : Sms := (.cons (.ret (.ix (.fld 0 (.v 0) "states") (.neg (.c (.int 1))))) .nil)
def fn_Desk_state : Fn := ⟨1, 1, ir_Desk_state⟩
def ir_Desk_pressed : Sms := (.cons (.ret (.bi .list (.fld 0 (.v 0) "line"))) .nil)
def fn_Desk_pressed : Fn := ⟨1, 1, ir_Desk_pressed⟩
def ir_Desk_taken_off : Sms := (.cons (.iff (.cmp .eq (.fld 0 (.v 0) "line") (.lst .nil)) (.cons (.raise 7) .nil) .nil) (.cons (.expr (.pop (.fld 0 (.v 0) "states"))) (.cons (.ret (.pop (.fld 0 (.v 0) "line"))) .nil)))
def fn_Desk_taken_off : Fn := ⟨1, 1, ir_Desk_taken_off⟩
def ir__law_call_64 : Sms := (.cons (.asg (.nm 3) (.c (.none))) (.cons (.asg (.nm 4) (.c (.none))) (.cons (.try_ (.cons (.asg (.nm 3) (.ife (.cmp .eq (.v 1) (.c (.int 0))) (.mc 0 59 "press" (.v 0) (.cons (.v 2) .nil)) (.mc 0 63 "taken_off" (.v 0) .nil))) .nil) 0 5 4) (.cons (.ret (.ife (.cmp .is_ (.v 4) (.c (.none))) (.tup (.cons (.c (.str "told")) (.cons (.v 3) .nil))) (.tup (.cons (.c (.str "error")) (.cons (.call 53 (.cons (.v 4) .nil)) .nil))))) .nil))))
def fn__law_call_64 : Fn := ⟨3, 6, ir__law_call_64⟩
def ir_is_int : Sms := (.cons (.ret (.and (.isi (.v 0) .int) (.and (.not (.isi (.v 0) .bool)) (.chain .le .le (.v 1) (.v 0) (.v 2))))) .nil)
def fn_is_int : Fn := ⟨3, 3, ir_is_int⟩
def ir_check_number : Sms := (.cons (.iff (.not (.call 0 (.cons (.v 0) (.cons (.v 1) (.cons (.v 2) .nil))))) (.cons (.raise 4) .nil) .nil) .nil)
def fn_check_number : Fn := ⟨3, 3, ir_check_number⟩
def ir_check_sight : Sms := (.cons (.expr (.call 1 (.cons (.v 0) (.cons (.c (.int 0)) (.cons (.c (.int 1)) .nil))))) .nil)
def fn_check_sight : Fn := ⟨1, 1, ir_check_sight⟩
def ir_is_key : Sms := (.cons (.ret (.and (.isi (.v 0) .str) (.cmp .in_ (.v 0) (.g 0)))) .nil)
def fn_is_key : Fn := ⟨1, 1, ir_is_key⟩
def ir_is_row : Sms := (.cons (.ret (.and (.isi (.v 0) .list) (.and (.cmp .le (.bi .len (.v 0)) (.g 1)) (.bi .all (.comp (.nm 1) (.e (.v 0)) (.c (.bool true)) (.call 3 (.cons (.v 1) .nil))))))) .nil)
def fn_is_row : Fn := ⟨1, 2, ir_is_row⟩
def ir_check_row : Sms := (.cons (.iff (.not (.call 4 (.cons (.v 0) .nil))) (.cons (.raise 3) .nil) .nil) .nil)
def fn_check_row : Fn := ⟨1, 1, ir_check_row⟩
def ir_is_letters : Sms := (.cons (.iff (.or (.not (.isi (.v 0) .str)) (.not (.chain .le .le (.v 1) (.bi .len (.v 0)) (.v 2)))) (.cons (.ret (.c (.bool false))) .nil) .nil) (.cons (.ret (.bi .all (.comp (.nm 3) (.e (.v 0)) (.c (.bool true)) (.cmp .in_ (.v 3) (.c (.str "ab")))))) .nil))
def fn_is_letters : Fn := ⟨3, 4, ir_is_letters⟩
def ir_is_text : Sms := (.cons (.ret (.call 7 (.cons (.v 0) (.cons (.c (.int 0)) (.cons (.g 2) .nil))))) .nil)
def fn_is_text : Fn := ⟨1, 1, ir_is_text⟩
def ir_is_list : Sms := (.cons (.iff (.or (.not (.isi (.v 0) .list)) (.or (.not (.chain .le .le (.c (.int 1)) (.bi .len (.v 0)) (.c (.int 3)))) (.not (.bi .all (.comp (.nm 1) (.e (.v 0)) (.c (.bool true)) (.call 7 (.cons (.v 1) (.cons (.c (.int 1)) (.cons (.c (.int 3)) .nil))))))))) (.cons (.ret (.c (.bool false))) .nil) .nil) (.cons (.ret (.cmp .eq (.bi .lenset (.v 0)) (.bi .len (.v 0)))) .nil))
def fn_is_list : Fn := ⟨1, 2, ir_is_list⟩
def ir_check_words : Sms := (.cons (.iff (.not (.call 9 (.cons (.v 0) .nil))) (.cons (.raise 2) .nil) .nil) .nil)
def fn_check_words : Fn := ⟨1, 1, ir_check_words⟩
def ir_begun_with : Sms := (.cons (.ret (.tup (.cons (.c (.str "")) (.cons (.c (.str "")) (.cons (.c (.int 0)) (.cons (.bi .tuple (.v 0)) (.cons (.c (.str "")) .nil))))))) .nil)
def fn_begun_with : Fn := ⟨1, 1, ir_begun_with⟩
def ir_fitting : Sms := (.cons (.ret (.comp (.nm 2) (.e (.v 0)) (.and (.cmp .gt (.bi .len (.v 2)) (.bi .len (.v 1))) (.cmp .eq (.sl (.v 2) (.c .none) (.bi .len (.v 1))) (.v 1))) (.v 2))) .nil)
def fn_fitting : Fn := ⟨2, 3, ir_fitting⟩
def lb_common_1 : Sms := (.cons (.iff (.bi .all (.comp (.nm 4) (.e (.v 0)) (.c (.bool true)) (.cmp .eq (.sl (.v 4) (.v 2) (.bin .add (.v 2) (.c (.int 1)))) (.v 3)))) (.cons (.aug 1 .add (.v 3)) .nil) (.cons (.ret (.v 1)) .nil)) .nil)
def ir_common : Sms := (.cons (.asg (.nm 1) (.c (.str ""))) (.cons (.for_ (.tp (.cons (.nm 2) (.cons (.nm 3) .nil))) (.enum (.ix (.v 0) (.c (.int 0)))) lb_common_1) (.cons (.ret (.v 1)) .nil)))
def fn_common : Fn := ⟨1, 5, ir_common⟩
def ir_offer_of : Sms := (.cons (.asg (.tp (.cons (.nm 2) (.cons (.nm 3) (.cons (.nm 4) (.cons (.nm 5) (.cons (.nm 6) .nil)))))) (.v 1)) (.cons (.asg (.nm 7) (.call 14 (.cons (.v 5) (.cons (.v 2) .nil)))) (.cons (.iff (.or (.cmp .eq (.v 4) (.c (.int 1))) (.or (.cmp .lt (.bi .len (.v 2)) (.ix (.v 0) (.c (.int 1)))) (.cmp .eq (.v 7) (.lst .nil)))) (.cons (.ret (.c (.str ""))) .nil) .nil) (.cons (.asg (.nm 8) (.comp (.nm 9) (.e (.v 7)) (.c (.bool true)) (.sl (.v 9) (.bi .len (.v 2)) (.c .none)))) (.cons (.iff (.cmp .eq (.ix (.v 0) (.c (.int 0))) (.c (.str "common"))) (.cons (.ret (.call 15 (.cons (.v 8) .nil))) .nil) .nil) (.cons (.iff (.cmp .eq (.ix (.v 0) (.c (.int 0))) (.c (.str "first"))) (.cons (.ret (.ix (.v 8) (.c (.int 0)))) .nil) .nil) (.cons (.asg (.nm 10) (.comp (.nm 11) (.e (.v 8)) (.c (.bool true)) (.bi .len (.v 11)))) (.cons (.ret (.ix (.v 8) (.bm .index (.v 10) (.bi .min (.v 10))))) .nil))))))))
def fn_offer_of : Fn := ⟨2, 12, ir_offer_of⟩
def ir_press_tab : Sms := (.cons (.asg (.tp (.cons (.nm 2) (.cons (.nm 3) (.cons (.nm 4) (.cons (.nm 5) (.cons (.nm 6) .nil)))))) (.v 1)) (.cons (.asg (.nm 7) (.call 16 (.cons (.v 0) (.cons (.v 1) .nil)))) (.cons (.iff (.cmp .ne (.v 7) (.c (.str ""))) (.cons (.ret (.tup (.cons (.bin .add (.v 2) (.v 7)) (.cons (.v 2) (.cons (.c (.int 1)) (.cons (.v 5) (.cons (.c (.str "")) .nil))))))) .nil) .nil) (.cons (.iff (.and (.cmp .eq (.ix (.v 0) (.c (.int 3))) (.c (.str "next"))) (.cmp .ne (.v 3) (.c (.str "")))) (.cons (.asg (.nm 8) (.call 14 (.cons (.v 5) (.cons (.v 3) .nil)))) (.cons (.asg (.nm 9) (.ife (.cmp .in_ (.v 2) (.v 8)) (.bin .add (.bm .index (.v 8) (.v 2)) (.c (.int 1))) (.c (.int 0)))) (.cons (.ret (.tup (.cons (.ix (.v 8) (.bin .mod (.v 9) (.bi .len (.v 8)))) (.cons (.v 3) (.cons (.c (.int 1)) (.cons (.v 5) (.cons (.c (.str "")) .nil))))))) .nil))) .nil) (.cons (.ret (.tup (.cons (.v 2) (.cons (.v 3) (.cons (.v 4) (.cons (.v 5) (.cons (.c (.str "")) .nil))))))) .nil)))))
def fn_press_tab : Fn := ⟨2, 10, ir_press_tab⟩
def ir_press_end : Sms := (.cons (.asg (.tp (.cons (.nm 3) (.cons (.nm 4) (.cons (.nm 5) (.cons (.nm 6) (.cons (.nm 7) .nil)))))) (.v 1)) (.cons (.iff (.v 2) (.cons (.aug 3 .add (.call 16 (.cons (.v 0) (.cons (.v 1) .nil)))) .nil) .nil) (.cons (.iff (.and (.cmp .eq (.ix (.v 0) (.c (.int 5))) (.c (.int 1))) (.cmp .in_ (.v 3) (.v 6))) (.cons (.asg (.nm 6) (.bin .add (.tup (.cons (.v 3) .nil)) (.bi .tuple (.comp (.nm 8) (.e (.v 6)) (.cmp .ne (.v 8) (.v 3)) (.v 8))))) .nil) .nil) (.cons (.ret (.tup (.cons (.c (.str "")) (.cons (.c (.str "")) (.cons (.c (.int 0)) (.cons (.v 6) (.cons (.v 3) .nil))))))) .nil))))
def fn_press_end : Fn := ⟨3, 9, ir_press_end⟩
def ir_press_back : Sms := (.cons (.asg (.tp (.cons (.nm 2) (.cons (.nm 3) (.cons (.nm 4) (.cons (.nm 5) (.cons (.nm 6) .nil)))))) (.v 1)) (.cons (.iff (.or (.cmp .eq (.call 16 (.cons (.v 0) (.cons (.v 1) .nil))) (.c (.str ""))) (.cmp .ne (.ix (.v 0) (.c (.int 4))) (.c (.str "offer")))) (.cons (.asg (.nm 2) (.sl (.v 2) (.c .none) (.neg (.c (.int 1))))) .nil) .nil) (.cons (.ret (.tup (.cons (.v 2) (.cons (.c (.str "")) (.cons (.ife (.or (.cmp .eq (.ix (.v 0) (.c (.int 4))) (.c (.str "letter"))) (.cmp .eq (.v 2) (.c (.str "")))) (.c (.int 0)) (.c (.int 1))) (.cons (.v 5) (.cons (.c (.str "")) .nil))))))) .nil)))
def fn_press_back : Fn := ⟨2, 7, ir_press_back⟩
def ir_step : Sms := (.cons (.iff (.cmp .eq (.v 2) (.c (.str "tab"))) (.cons (.ret (.call 17 (.cons (.v 0) (.cons (.v 1) .nil)))) .nil) .nil) (.cons (.iff (.cmp .eq (.v 2) (.c (.str "blank"))) (.cons (.ret (.call 18 (.cons (.v 0) (.cons (.v 1) (.cons (.cmp .ne (.ix (.v 0) (.c (.int 2))) (.c (.str "tab"))) .nil))))) .nil) .nil) (.cons (.iff (.cmp .eq (.v 2) (.c (.str "end"))) (.cons (.ret (.call 18 (.cons (.v 0) (.cons (.v 1) (.cons (.cmp .eq (.ix (.v 0) (.c (.int 2))) (.c (.str "always"))) .nil))))) .nil) .nil) (.cons (.iff (.cmp .eq (.v 2) (.c (.str "back"))) (.cons (.ret (.call 19 (.cons (.v 0) (.cons (.v 1) .nil)))) .nil) .nil) (.cons (.asg (.tp (.cons (.nm 3) (.cons (.nm 4) (.cons (.nm 5) (.cons (.nm 6) (.cons (.nm 7) .nil)))))) (.v 1)) (.cons (.iff (.cmp .eq (.bi .len (.v 3)) (.g 2)) (.cons (.ret (.tup (.cons (.v 3) (.cons (.v 4) (.cons (.v 5) (.cons (.v 6) (.cons (.c (.str "")) .nil))))))) .nil) .nil) (.cons (.ret (.tup (.cons (.bin .add (.v 3) (.v 2)) (.cons (.c (.str "")) (.cons (.c (.int 0)) (.cons (.v 6) (.cons (.c (.str "")) .nil))))))) .nil)))))))
def fn_step : Fn := ⟨3, 8, ir_step⟩
def ir_view_of : Sms := (.cons (.ret (.ife (.cmp .eq (.v 2) (.c (.int 0))) (.tup (.cons (.ix (.v 1) (.c (.int 0))) (.cons (.call 16 (.cons (.v 0) (.cons (.v 1) .nil))) (.cons (.ix (.v 1) (.c (.int 4))) .nil)))) (.ix (.v 1) (.c (.int 4))))) .nil)
def fn_view_of : Fn := ⟨3, 3, ir_view_of⟩
def ir_is_one_of : Sms := (.cons (.ret (.and (.isi (.v 0) .str) (.cmp .in_ (.v 0) (.v 1)))) .nil)
def fn_is_one_of : Fn := ⟨2, 2, ir_is_one_of⟩
def ir_is_way : Sms := (.cons (.iff (.or (.not (.isi (.v 0) .tuple)) (.cmp .ne (.bi .len (.v 0)) (.c (.int 6)))) (.cons (.ret (.c (.bool false))) .nil) .nil) (.cons (.iff (.or (.not (.call 22 (.cons (.ix (.v 0) (.c (.int 0))) (.cons (.g 3) .nil)))) (.or (.not (.call 0 (.cons (.ix (.v 0) (.c (.int 1))) (.cons (.c (.int 1)) (.cons (.c (.int 2)) .nil))))) (.not (.call 22 (.cons (.ix (.v 0) (.c (.int 2))) (.cons (.g 4) .nil)))))) (.cons (.ret (.c (.bool false))) .nil) .nil) (.cons (.ret (.and (.call 22 (.cons (.ix (.v 0) (.c (.int 3))) (.cons (.g 5) .nil))) (.and (.call 22 (.cons (.ix (.v 0) (.c (.int 4))) (.cons (.g 6) .nil))) (.call 0 (.cons (.ix (.v 0) (.c (.int 5))) (.cons (.c (.int 0)) (.cons (.c (.int 1)) .nil))))))) .nil)))
def fn_is_way : Fn := ⟨1, 1, ir_is_way⟩
def ir_check_way : Sms := (.cons (.iff (.not (.call 23 (.cons (.v 0) .nil))) (.cons (.raise 1) .nil) .nil) .nil)
def fn_check_way : Fn := ⟨1, 1, ir_check_way⟩
def ir_check_family : Sms := (.cons (.iff (.or (.not (.isi (.v 0) .list)) (.or (.not (.chain .le .le (.c (.int 1)) (.bi .len (.v 0)) (.c (.int 8)))) (.not (.bi .all (.comp (.nm 1) (.e (.v 0)) (.c (.bool true)) (.call 23 (.cons (.v 1) .nil))))))) (.cons (.raise 1) .nil) .nil) .nil)
def fn_check_family : Fn := ⟨1, 2, ir_check_family⟩
def lb_states_of_1 : Sms := (.cons (.app 3 (.call 20 (.cons (.v 0) (.cons (.ix (.v 3) (.neg (.c (.int 1)))) (.cons (.v 4) .nil))))) .nil)
def ir_states_of : Sms := (.cons (.own 3 (.lst (.cons (.call 13 (.cons (.v 1) .nil)) .nil))) (.cons (.for_ (.nm 4) (.e (.v 2)) lb_states_of_1) (.cons (.ret (.v 3)) .nil)))
def fn_states_of : Fn := ⟨3, 5, ir_states_of⟩
def ir_shown : Sms := (.cons (.ret (.comp (.nm 4) (.e (.sl (.call 25 (.cons (.v 0) (.cons (.v 1) (.cons (.v 3) .nil)))) (.c (.int 1)) (.c .none))) (.c (.bool true)) (.call 21 (.cons (.v 0) (.cons (.v 4) (.cons (.v 2) .nil)))))) .nil)
def fn_shown : Fn := ⟨4, 5, ir_shown⟩
def ir_views_of : Sms := (.cons (.expr (.call 24 (.cons (.v 0) .nil))) (.cons (.expr (.call 10 (.cons (.v 1) .nil))) (.cons (.expr (.call 2 (.cons (.v 2) .nil))) (.cons (.expr (.call 5 (.cons (.v 3) .nil))) (.cons (.ret (.call 26 (.cons (.v 0) (.cons (.v 1) (.cons (.v 2) (.cons (.v 3) .nil)))))) .nil)))))
def fn_views_of : Fn := ⟨4, 4, ir_views_of⟩
def ir_is_view : Sms := (.cons (.iff (.cmp .eq (.v 1) (.c (.int 1))) (.cons (.ret (.call 8 (.cons (.v 0) .nil))) .nil) .nil) (.cons (.ret (.and (.isi (.v 0) .tuple) (.and (.cmp .eq (.bi .len (.v 0)) (.c (.int 3))) (.bi .all (.comp (.nm 2) (.e (.v 0)) (.c (.bool true)) (.call 8 (.cons (.v 2) .nil))))))) .nil))
def fn_is_view : Fn := ⟨2, 3, ir_is_view⟩
def ir_is_view_row : Sms := (.cons (.iff (.or (.not (.isi (.v 0) .list)) (.cmp .gt (.bi .len (.v 0)) (.g 7))) (.cons (.ret (.c (.bool false))) .nil) .nil) (.cons (.ret (.bi .all (.comp (.nm 2) (.e (.v 0)) (.c (.bool true)) (.call 93 (.cons (.v 2) (.cons (.v 1) .nil)))))) .nil))
def fn_is_view_row : Fn := ⟨2, 3, ir_is_view_row⟩
def ir_is_record : Sms := (.cons (.iff (.or (.not (.isi (.v 0) .tuple)) (.or (.cmp .ne (.bi .len (.v 0)) (.c (.int 2))) (.not (.call 4 (.cons (.ix (.v 0) (.c (.int 0))) .nil))))) (.cons (.ret (.c (.bool false))) .nil) .nil) (.cons (.ret (.and (.call 94 (.cons (.ix (.v 0) (.c (.int 1))) (.cons (.v 1) .nil))) (.cmp .eq (.bi .len (.ix (.v 0) (.c (.int 0)))) (.bi .len (.ix (.v 0) (.c (.int 1))))))) .nil))
def fn_is_record : Fn := ⟨2, 2, ir_is_record⟩
def lb_bar_of_1 : Sms := (.cons (.iff (.cmp .ne (.v 5) (.v 6)) (.cons (.ret (.v 4)) .nil) .nil) .nil)
def ir_bar_of : Sms := (.cons (.for_ (.tp (.cons (.nm 4) (.cons (.tp (.cons (.nm 5) (.cons (.nm 6) .nil))) .nil))) (.enz (.call 26 (.cons (.v 0) (.cons (.v 1) (.cons (.v 2) (.cons (.ix (.v 3) (.c (.int 0))) .nil))))) (.ix (.v 3) (.c (.int 1)))) lb_bar_of_1) (.cons (.ret (.c (.none))) .nil))
def fn_bar_of : Fn := ⟨4, 7, ir_bar_of⟩
def ir_first_bar : Sms := (.cons (.expr (.call 24 (.cons (.v 0) .nil))) (.cons (.expr (.call 10 (.cons (.v 1) .nil))) (.cons (.expr (.call 2 (.cons (.v 2) .nil))) (.cons (.iff (.not (.call 95 (.cons (.v 3) (.cons (.v 2) .nil)))) (.cons (.raise 5) .nil) .nil) (.cons (.ret (.call 96 (.cons (.v 0) (.cons (.v 1) (.cons (.v 2) (.cons (.v 3) .nil)))))) .nil)))))
def fn_first_bar : Fn := ⟨4, 4, ir_first_bar⟩
def ir_made : Sms := (.cons (.ret (.cmp .is_ (.call 97 (.cons (.v 0) (.cons (.v 1) (.cons (.v 2) (.cons (.v 3) .nil))))) (.c (.none)))) .nil)
def fn_made : Fn := ⟨4, 4, ir_made⟩
def lb_bars_1 : Sms := (.cons (.asg (.nm 7) (.comp (.nm 8) (.e (.v 3)) (.c (.bool true)) (.call 96 (.cons (.v 6) (.cons (.v 1) (.cons (.v 2) (.cons (.v 8) .nil))))))) (.cons (.asg (.nm 9) (.comp (.tp (.cons (.nm 10) (.cons (.nm 11) .nil))) (.enum (.v 7)) (.cmp .isnot (.v 11) (.c (.none))) (.tup (.cons (.v 10) (.cons (.v 11) .nil))))) (.cons (.app 5 (.ife (.cmp .ne (.v 9) (.lst .nil)) (.ix (.v 9) (.c (.int 0))) (.c (.none)))) .nil)))
def ir_bars : Sms := (.cons (.expr (.call 92 (.cons (.v 0) .nil))) (.cons (.expr (.call 10 (.cons (.v 1) .nil))) (.cons (.expr (.call 2 (.cons (.v 2) .nil))) (.cons (.iff (.or (.not (.isi (.v 3) .list)) (.not (.chain .le .le (.c (.int 1)) (.bi .len (.v 3)) (.c (.int 12))))) (.cons (.raise 5) .nil) .nil) (.cons (.iff (.not (.bi .all (.comp (.nm 4) (.e (.v 3)) (.c (.bool true)) (.call 95 (.cons (.v 4) (.cons (.v 2) .nil)))))) (.cons (.raise 5) .nil) .nil) (.cons (.own 5 (.lst .nil)) (.cons (.for_ (.nm 6) (.e (.v 0)) lb_bars_1) (.cons (.ret (.v 5)) .nil))))))))
def fn_bars : Fn := ⟨4, 12, ir_bars⟩
def ir_remains : Sms := (.cons (.ret (.comp (.tp (.cons (.nm 4) (.cons (.nm 5) .nil))) (.enum (.call 99 (.cons (.v 0) (.cons (.v 1) (.cons (.v 2) (.cons (.v 3) .nil)))))) (.cmp .is_ (.v 5) (.c (.none))) (.v 4))) .nil)
def fn_remains : Fn := ⟨4, 6, ir_remains⟩
def lb_groups_by_1 : Sms := (.cons (.iff (.cmp .notin (.v 3) (.sl (.v 0) (.c .none) (.v 2))) (.cons (.app 1 (.comp (.nm 4) (.rng (.c (.int 0)) (.bi .len (.v 0))) (.cmp .eq (.ix (.v 0) (.v 4)) (.v 3)) (.v 4))) .nil) .nil) .nil)
def ir_groups_by : Sms := (.cons (.own 1 (.lst .nil)) (.cons (.for_ (.tp (.cons (.nm 2) (.cons (.nm 3) .nil))) (.enum (.v 0)) lb_groups_by_1) (.cons (.ret (.v 1)) .nil)))
def fn_groups_by : Fn := ⟨1, 5, ir_groups_by⟩
def ir_check_all : Sms := (.cons (.expr (.call 92 (.cons (.v 0) .nil))) (.cons (.expr (.call 10 (.cons (.v 1) .nil))) (.cons (.expr (.call 2 (.cons (.v 2) .nil))) .nil)))
def fn_check_all : Fn := ⟨3, 3, ir_check_all⟩
def ir_groups : Sms := (.cons (.expr (.call 102 (.cons (.v 0) (.cons (.v 1) (.cons (.v 2) .nil))))) (.cons (.expr (.call 5 (.cons (.v 3) .nil))) (.cons (.ret (.call 101 (.cons (.comp (.nm 4) (.e (.v 0)) (.c (.bool true)) (.call 26 (.cons (.v 4) (.cons (.v 1) (.cons (.v 2) (.cons (.v 3) .nil)))))) .nil))) .nil)))
def fn_groups : Fn := ⟨4, 5, ir_groups⟩
def ir__law_start : Sms := (.cons (.ret (.newW (.cons (.newL (.ife (.cmp .ne (.v 0) (.lst .nil)) (.bi .list (.v 0)) (.lst (.cons (.c (.int 0)) .nil)))) (.cons (.c (.int 0)) .nil)))) .nil)
def fn__law_start : Fn := ⟨1, 1, ir__law_start⟩
def ir__law_draw : Sms := (.cons (.asg (.nm 2) (.ix (.v 0) (.c (.int 0)))) (.cons (.setix (.v 0) (.c (.int 1)) (.bin .add (.ix (.v 0) (.c (.int 1))) (.c (.int 1)))) (.cons (.asg (.nm 3) (.bin .mod (.ix (.v 0) (.c (.int 1))) (.bi .len (.v 2)))) (.cons (.asg (.nm 4) (.ix (.v 2) (.v 3))) (.cons (.iff (.cmp .ge (.v 4) (.c (.int 1000000000000000000))) (.cons (.setix (.v 2) (.v 3) (.bin .fdiv (.v 4) (.v 1))) (.cons (.ret (.bin .mod (.v 4) (.v 1))) .nil)) .nil) (.cons (.asg (.nm 5) (.bin .mod (.bin .add (.v 4) (.bin .mul (.c (.int 104729)) (.ix (.v 0) (.c (.int 1))))) (.c (.int 4294967291)))) (.cons (.asg (.nm 5) (.bin .mod (.bin .pow (.v 5) (.c (.int 5))) (.c (.int 4294967279)))) (.cons (.ret (.bin .mod (.bin .fdiv (.bin .mod (.bin .add (.bin .mul (.bin .fdiv (.v 5) (.c (.int 64))) (.c (.int 69621))) (.v 5)) (.c (.int 4294967231))) (.c (.int 8))) (.v 1))) .nil))))))))
def fn__law_draw : Fn := ⟨2, 6, ir__law_draw⟩
def ir__law_pick : Sms := (.cons (.ret (.ix (.v 1) (.call 32 (.cons (.v 0) (.cons (.bi .len (.v 1)) .nil))))) .nil)
def fn__law_pick : Fn := ⟨2, 2, ir__law_pick⟩
def ir__law_true : Sms := (.cons (.ret (.and (.isi (.v 0) .bool) (.cmp .eq (.v 0) (.v 1)))) .nil)
def fn__law_true : Fn := ⟨2, 2, ir__law_true⟩
def ir__law_way : Sms := (.cons (.par [(1, false), (2, false)] (.cons (.call 33 (.cons (.v 0) (.cons (.lst (.cons (.c (.str "first")) (.cons (.c (.str "short")) (.cons (.c (.str "common")) .nil)))) .nil))) (.cons (.call 33 (.cons (.v 0) (.cons (.lst (.cons (.c (.int 1)) (.cons (.c (.int 1)) (.cons (.c (.int 2)) .nil)))) .nil))) .nil))) (.cons (.par [(3, false), (4, false)] (.cons (.call 33 (.cons (.v 0) (.cons (.lst (.cons (.c (.str "tab")) (.cons (.c (.str "blank")) (.cons (.c (.str "always")) .nil)))) .nil))) (.cons (.call 33 (.cons (.v 0) (.cons (.lst (.cons (.c (.str "next")) (.cons (.c (.str "stay")) .nil))) .nil))) .nil))) (.cons (.ret (.tup (.cons (.v 1) (.cons (.v 2) (.cons (.v 3) (.cons (.v 4) (.cons (.call 33 (.cons (.v 0) (.cons (.lst (.cons (.c (.str "offer")) (.cons (.c (.str "letter")) (.cons (.c (.str "both")) .nil)))) .nil))) (.cons (.call 32 (.cons (.v 0) (.cons (.c (.int 2)) .nil))) .nil)))))))) .nil)))
def fn__law_way : Fn := ⟨1, 5, ir__law_way⟩
def lb__law_texts_1 : Sms := (.cons (.asg (.nm 4) (.bin .add (.v 4) (.lst (.cons (.bin .add (.v 5) (.c (.str "a"))) (.cons (.bin .add (.v 5) (.c (.str "b"))) .nil))))) .nil)
def lb__law_texts_2 : Sms := (.cons (.asg (.nm 4) (.lst .nil)) (.cons (.for_ (.nm 5) (.e (.v 2)) lb__law_texts_1) (.cons (.par [(1, false), (2, false)] (.cons (.bin .add (.v 1) (.v 4)) (.cons (.v 4) .nil))) .nil)))
def ir__law_texts : Sms := (.cons (.par [(1, false), (2, false)] (.cons (.lst .nil) (.cons (.lst (.cons (.c (.str "")) .nil)) .nil))) (.cons (.for_ (.nm 3) (.rng (.c (.int 0)) (.v 0)) lb__law_texts_2) (.cons (.ret (.v 1)) .nil)))
def fn__law_texts : Fn := ⟨1, 6, ir__law_texts⟩
def lb__law_list_1 : Sms := (.cons (.app 2 (.call 33 (.cons (.v 0) (.cons (.v 3) .nil)))) (.cons (.asg (.nm 3) (.comp (.nm 5) (.e (.v 3)) (.cmp .ne (.v 5) (.ix (.v 2) (.neg (.c (.int 1))))) (.v 5))) .nil))
def ir__law_list : Sms := (.cons (.par [(2, true), (3, false)] (.cons (.lst .nil) (.cons (.bin .add (.sl (.call 36 (.cons (.c (.int 3)) .nil)) (.c (.int 2)) (.c .none)) (.lst (.cons (.c (.str "a")) (.cons (.c (.str "b")) .nil)))) .nil))) (.cons (.for_ (.nm 4) (.rng (.c (.int 0)) (.bin .add (.c (.int 1)) (.call 32 (.cons (.v 0) (.cons (.v 1) .nil))))) lb__law_list_1) (.cons (.ret (.v 2)) .nil)))
def fn__law_list : Fn := ⟨2, 6, ir__law_list⟩
def ir__law_row : Sms := (.cons (.ret (.comp (.nm 2) (.rng (.c (.int 0)) (.call 32 (.cons (.v 0) (.cons (.bin .add (.v 1) (.c (.int 1))) .nil)))) (.c (.bool true)) (.call 33 (.cons (.v 0) (.cons (.lst (.cons (.c (.str "a")) (.cons (.c (.str "a")) (.cons (.c (.str "b")) (.cons (.c (.str "b")) (.cons (.c (.str "tab")) (.cons (.c (.str "tab")) (.cons (.c (.str "blank")) (.cons (.c (.str "back")) (.cons (.c (.str "end")) .nil)))))))))) .nil))))) .nil)
def fn__law_row : Fn := ⟨2, 3, ir__law_row⟩
def ir__law_fit : Sms := (.cons (.ret (.comp (.nm 2) (.e (.v 0)) (.and (.bm .startswith (.v 2) (.v 1)) (.cmp .ne (.v 2) (.v 1))) (.sl (.v 2) (.bi .len (.v 1)) (.c .none)))) .nil)
def fn__law_fit : Fn := ⟨2, 3, ir__law_fit⟩
def ir__law_offer : Sms := (.cons (.asg (.nm 2) (.call 39 (.cons (.ix (.v 1) (.c (.int 3))) (.cons (.ix (.v 1) (.c (.int 0))) .nil)))) (.cons (.iff (.or (.cmp .eq (.ix (.v 1) (.c (.int 2))) (.c (.int 1))) (.or (.cmp .lt (.bi .len (.ix (.v 1) (.c (.int 0)))) (.ix (.v 0) (.c (.int 1)))) (.cmp .eq (.v 2) (.lst .nil)))) (.cons (.ret (.c (.str ""))) .nil) .nil) (.cons (.iff (.cmp .eq (.ix (.v 0) (.c (.int 0))) (.c (.str "short"))) (.cons (.asg (.nm 3) (.bi .min (.comp (.nm 4) (.e (.v 2)) (.c (.bool true)) (.bi .len (.v 4))))) (.cons (.ret (.ix (.comp (.nm 4) (.e (.v 2)) (.cmp .eq (.bi .len (.v 4)) (.v 3)) (.v 4)) (.c (.int 0)))) .nil)) .nil) (.cons (.iff (.cmp .eq (.ix (.v 0) (.c (.int 0))) (.c (.str "first"))) (.cons (.ret (.ix (.v 2) (.c (.int 0)))) .nil) .nil) (.cons (.asg (.nm 5) (.comp (.nm 6) (.rng (.c (.int 0)) (.bin .add (.bi .len (.ix (.v 2) (.c (.int 0)))) (.c (.int 1)))) (.c (.bool true)) (.sl (.ix (.v 2) (.c (.int 0))) (.c .none) (.v 6)))) (.cons (.ret (.ix (.comp (.nm 7) (.e (.v 5)) (.cmp .eq (.comp (.nm 4) (.e (.v 2)) (.not (.bm .startswith (.v 4) (.v 7))) (.v 4)) (.lst .nil)) (.v 7)) (.neg (.c (.int 1))))) .nil))))))
def fn__law_offer : Fn := ⟨2, 8, ir__law_offer⟩
def ir__law_tab : Sms := (.cons (.asg (.tp (.cons (.nm 2) (.cons (.nm 3) (.cons (.nm 4) (.cons (.nm 5) (.cons (.nm 6) .nil)))))) (.v 1)) (.cons (.asg (.nm 7) (.call 40 (.cons (.v 0) (.cons (.v 1) .nil)))) (.cons (.iff (.cmp .ne (.v 7) (.c (.str ""))) (.cons (.ret (.tup (.cons (.bin .add (.v 2) (.v 7)) (.cons (.v 2) (.cons (.c (.int 1)) (.cons (.v 5) (.cons (.c (.str "")) .nil))))))) .nil) .nil) (.cons (.iff (.or (.cmp .eq (.v 3) (.c (.str ""))) (.cmp .eq (.ix (.v 0) (.c (.int 3))) (.c (.str "stay")))) (.cons (.ret (.tup (.cons (.v 2) (.cons (.v 3) (.cons (.v 4) (.cons (.v 5) (.cons (.c (.str "")) .nil))))))) .nil) .nil) (.cons (.asg (.nm 8) (.comp (.nm 9) (.e (.call 39 (.cons (.v 5) (.cons (.v 3) .nil)))) (.c (.bool true)) (.bin .add (.v 3) (.v 9)))) (.cons (.asg (.nm 10) (.bin .add (.v 8) (.v 8))) (.cons (.ret (.tup (.cons (.ife (.cmp .in_ (.v 2) (.v 8)) (.ix (.v 10) (.bin .add (.bm .index (.v 10) (.v 2)) (.c (.int 1)))) (.ix (.v 8) (.c (.int 0)))) (.cons (.v 3) (.cons (.c (.int 1)) (.cons (.v 5) (.cons (.c (.str "")) .nil))))))) .nil)))))))
def fn__law_tab : Fn := ⟨2, 11, ir__law_tab⟩
def ir__law_step : Sms := (.cons (.asg (.tp (.cons (.nm 3) (.cons (.nm 4) (.cons (.nm 5) (.cons (.nm 6) (.cons (.nm 7) .nil)))))) (.v 1)) (.cons (.iff (.cmp .in_ (.v 2) (.tup (.cons (.c (.str "a")) (.cons (.c (.str "b")) .nil)))) (.cons (.ret (.ife (.cmp .gt (.bi .len (.v 3)) (.c (.int 3))) (.tup (.cons (.v 3) (.cons (.v 4) (.cons (.v 5) (.cons (.v 6) (.cons (.c (.str "")) .nil)))))) (.tup (.cons (.bin .add (.v 3) (.v 2)) (.cons (.c (.str "")) (.cons (.c (.int 0)) (.cons (.v 6) (.cons (.c (.str "")) .nil)))))))) .nil) .nil) (.cons (.iff (.cmp .eq (.v 2) (.c (.str "tab"))) (.cons (.ret (.call 41 (.cons (.v 0) (.cons (.v 1) .nil)))) .nil) .nil) (.cons (.asg (.nm 8) (.call 40 (.cons (.v 0) (.cons (.v 1) .nil)))) (.cons (.iff (.cmp .eq (.v 2) (.c (.str "back"))) (.cons (.asg (.nm 9) (.ife (.and (.cmp .ne (.v 8) (.c (.str ""))) (.cmp .eq (.ix (.v 0) (.c (.int 4))) (.c (.str "offer")))) (.v 3) (.sl (.v 3) (.c .none) (.neg (.c (.int 1)))))) (.cons (.ret (.tup (.cons (.v 9) (.cons (.c (.str "")) (.cons (.ife (.and (.cmp .ne (.v 9) (.c (.str ""))) (.cmp .in_ (.ix (.v 0) (.c (.int 4))) (.tup (.cons (.c (.str "offer")) (.cons (.c (.str "both")) .nil))))) (.c (.int 1)) (.c (.int 0))) (.cons (.v 6) (.cons (.c (.str "")) .nil))))))) .nil)) .nil) (.cons (.asg (.nm 10) (.ife (.or (.cmp .eq (.ix (.v 0) (.c (.int 2))) (.c (.str "always"))) (.and (.cmp .eq (.ix (.v 0) (.c (.int 2))) (.c (.str "blank"))) (.cmp .eq (.v 2) (.c (.str "blank"))))) (.bin .add (.v 3) (.v 8)) (.v 3))) (.cons (.iff (.and (.cmp .in_ (.v 10) (.v 6)) (.cmp .eq (.ix (.v 0) (.c (.int 5))) (.c (.int 1)))) (.cons (.asg (.nm 6) (.bi .tuple (.bin .add (.lst (.cons (.v 10) .nil)) (.comp (.nm 11) (.e (.v 6)) (.cmp .ne (.v 11) (.v 10)) (.v 11))))) .nil) .nil) (.cons (.ret (.tup (.cons (.c (.str "")) (.cons (.c (.str "")) (.cons (.c (.int 0)) (.cons (.v 6) (.cons (.v 10) .nil))))))) .nil))))))))
def fn__law_step : Fn := ⟨3, 12, ir__law_step⟩
def ir__law_start_state : Sms := (.cons (.ret (.tup (.cons (.c (.str "")) (.cons (.c (.str "")) (.cons (.c (.int 0)) (.cons (.bi .tuple (.v 0)) (.cons (.c (.str "")) .nil))))))) .nil)
def fn__law_start_state : Fn := ⟨1, 1, ir__law_start_state⟩
def lb__law_states_1 : Sms := (.cons (.app 3 (.call 42 (.cons (.v 0) (.cons (.ix (.v 3) (.neg (.c (.int 1)))) (.cons (.v 4) .nil))))) .nil)
def ir__law_states : Sms := (.cons (.own 3 (.lst (.cons (.call 43 (.cons (.v 1) .nil)) .nil))) (.cons (.for_ (.nm 4) (.e (.v 2)) lb__law_states_1) (.cons (.ret (.v 3)) .nil)))
def fn__law_states : Fn := ⟨3, 5, ir__law_states⟩
def ir__law_view : Sms := (.cons (.ret (.ife (.cmp .eq (.v 2) (.c (.int 0))) (.tup (.cons (.ix (.v 1) (.c (.int 0))) (.cons (.call 40 (.cons (.v 0) (.cons (.v 1) .nil))) (.cons (.ix (.v 1) (.c (.int 4))) .nil)))) (.ix (.v 1) (.c (.int 4))))) .nil)
def fn__law_view : Fn := ⟨3, 3, ir__law_view⟩
def ir__law_views_109 : Sms := (.cons (.ret (.newL (.comp (.nm 4) (.e (.sl (.call 44 (.cons (.v 0) (.cons (.v 1) (.cons (.v 3) .nil)))) (.c (.int 1)) (.c .none))) (.c (.bool true)) (.call 45 (.cons (.v 0) (.cons (.v 4) (.cons (.v 2) .nil))))))) .nil)
def fn__law_views_109 : Fn := ⟨4, 5, ir__law_views_109⟩
def ir__law_groups : Sms := (.cons (.asg (.nm 1) (.comp (.nm 2) (.rng (.c (.int 0)) (.bi .len (.v 0))) (.cmp .notin (.ix (.v 0) (.v 2)) (.sl (.v 0) (.c .none) (.v 2))) (.v 2))) (.cons (.ret (.comp (.nm 3) (.e (.v 1)) (.c (.bool true)) (.comp (.nm 2) (.rng (.c (.int 0)) (.bi .len (.v 0))) (.cmp .eq (.ix (.v 0) (.v 2)) (.ix (.v 0) (.v 3))) (.v 2)))) .nil))
def fn__law_groups : Fn := ⟨1, 4, ir__law_groups⟩
def ir__law_clean : Sms := (.cons (.asg (.nm 5) (.call 38 (.cons (.v 0) (.cons (.c (.int 40)) .nil)))) (.cons (.asg (.nm 6) (.lst (.cons (.tup (.cons (.v 5) (.cons (.call 27 (.cons (.ix (.v 1) (.v 2)) (.cons (.v 3) (.cons (.v 4) (.cons (.v 5) .nil))))) .nil))) (.cons (.tup (.cons (.lst .nil) (.cons (.lst .nil) .nil))) .nil)))) (.cons (.asg (.nm 7) (.call 100 (.cons (.v 1) (.cons (.v 3) (.cons (.v 4) (.cons (.v 6) .nil)))))) (.cons (.iff (.or (.cmp .notin (.v 2) (.v 7)) (.cmp .isnot (.call 97 (.cons (.ix (.v 1) (.v 2)) (.cons (.v 3) (.cons (.v 4) (.cons (.tup (.cons (.lst .nil) (.cons (.lst .nil) .nil))) .nil))))) (.c (.none)))) (.cons (.ret (.c (.bool false))) .nil) .nil) (.cons (.asg (.nm 8) (.call 103 (.cons (.v 1) (.cons (.v 3) (.cons (.v 4) (.cons (.v 5) .nil)))))) (.cons (.iff (.cmp .ne (.v 8) (.call 106 (.cons (.comp (.nm 9) (.e (.v 1)) (.c (.bool true)) (.call 109 (.cons (.v 9) (.cons (.v 3) (.cons (.v 4) (.cons (.v 5) .nil)))))) .nil))) (.cons (.ret (.c (.bool false))) .nil) .nil) (.cons (.ret (.cmp .eq (.ix (.comp (.nm 10) (.e (.v 8)) (.cmp .in_ (.v 2) (.v 10)) (.v 10)) (.c (.int 0))) (.v 7))) .nil)))))))
def fn__law_clean : Fn := ⟨5, 11, ir__law_clean⟩
def lb_law_108_1 : Sms := (.cons (.asg (.nm 9) (.call 38 (.cons (.v 1) (.cons (.c (.int 10)) .nil)))) (.cons (.asg (.nm 10) (.call 109 (.cons (.ix (.v 4) (.v 6)) (.cons (.v 2) (.cons (.v 3) (.cons (.v 9) .nil)))))) (.cons (.iff (.and (.cmp .ne (.v 10) (.lst .nil)) (.cmp .eq (.call 32 (.cons (.v 1) (.cons (.c (.int 3)) .nil))) (.c (.int 0)))) (.cons (.asg (.nm 11) (.call 32 (.cons (.v 1) (.cons (.bi .len (.v 10)) .nil)))) (.cons (.setix (.v 10) (.v 11) (.call 33 (.cons (.v 1) (.cons (.v 10) .nil)))) .nil)) .nil) (.cons (.frz 10 (.app 7 (.tup (.cons (.v 9) (.cons (.v 10) .nil))))) .nil))))
def lb_law_108_2 : Sms := (.cons (.asg (.nm 15) (.call 109 (.cons (.v 13) (.cons (.v 2) (.cons (.v 3) (.cons (.v 9) .nil)))))) (.cons (.asg (.nm 16) (.comp (.nm 5) (.rng (.c (.int 0)) (.bi .len (.v 9))) (.cmp .ne (.ix (.v 15) (.v 5)) (.ix (.v 10) (.v 5))) (.v 5))) (.cons (.app 14 (.ife (.cmp .ne (.v 16) (.lst .nil)) (.ix (.v 16) (.c (.int 0))) (.c (.none)))) .nil)))
def lb_law_108_3 : Sms := (.cons (.own 14 (.lst .nil)) (.cons (.for_ (.tp (.cons (.nm 9) (.cons (.nm 10) .nil))) (.e (.v 7)) lb_law_108_2) (.cons (.asg (.nm 17) (.comp (.nm 5) (.rng (.c (.int 0)) (.bi .len (.v 7))) (.cmp .isnot (.ix (.v 14) (.v 5)) (.c (.none))) (.v 5))) (.cons (.app 12 (.ife (.cmp .ne (.v 17) (.lst .nil)) (.tup (.cons (.ix (.v 17) (.c (.int 0))) (.cons (.ix (.v 14) (.ix (.v 17) (.c (.int 0)))) .nil))) (.c (.none)))) (.cons (.asg (.nm 11) (.call 32 (.cons (.v 1) (.cons (.bi .len (.v 7)) .nil)))) (.cons (.iff (.cmp .ne (.call 97 (.cons (.v 13) (.cons (.v 2) (.cons (.v 3) (.cons (.ix (.v 7) (.v 11)) .nil))))) (.ix (.v 14) (.v 11))) (.cons (.ret (.c (.bool false))) .nil) .nil) (.cons (.iff (.not (.call 104 (.cons (.call 98 (.cons (.v 13) (.cons (.v 2) (.cons (.v 3) (.cons (.ix (.v 7) (.v 11)) .nil))))) (.cons (.cmp .is_ (.ix (.v 14) (.v 11)) (.c (.none))) .nil)))) (.cons (.ret (.c (.bool false))) .nil) .nil) .nil)))))))
def ir_law_108 : Sms := (.cons (.asg (.nm 1) (.call 31 (.cons (.v 0) .nil))) (.cons (.par [(2, false), (3, false)] (.cons (.call 37 (.cons (.v 1) (.cons (.c (.int 3)) .nil))) (.cons (.call 32 (.cons (.v 1) (.cons (.c (.int 2)) .nil))) .nil))) (.cons (.asg (.nm 4) (.comp (.nm 5) (.rng (.c (.int 0)) (.bin .add (.c (.int 1)) (.call 32 (.cons (.v 1) (.cons (.c (.int 8)) .nil))))) (.c (.bool true)) (.call 35 (.cons (.v 1) .nil)))) (.cons (.par [(6, false), (7, true)] (.cons (.call 32 (.cons (.v 1) (.cons (.bi .len (.v 4)) .nil))) (.cons (.lst .nil) .nil))) (.cons (.for_ (.nm 8) (.rng (.c (.int 0)) (.bin .add (.c (.int 1)) (.call 32 (.cons (.v 1) (.cons (.c (.int 6)) .nil))))) lb_law_108_1) (.cons (.own 12 (.lst .nil)) (.cons (.for_ (.nm 13) (.e (.v 4)) lb_law_108_3) (.cons (.asg (.nm 18) (.comp (.nm 5) (.rng (.c (.int 0)) (.bi .len (.v 4))) (.cmp .is_ (.ix (.v 12) (.v 5)) (.c (.none))) (.v 5))) (.cons (.iff (.or (.cmp .ne (.call 99 (.cons (.v 4) (.cons (.v 2) (.cons (.v 3) (.cons (.v 7) .nil))))) (.v 12)) (.cmp .ne (.call 100 (.cons (.v 4) (.cons (.v 2) (.cons (.v 3) (.cons (.v 7) .nil))))) (.v 18))) (.cons (.ret (.c (.bool false))) .nil) .nil) (.cons (.ret (.call 107 (.cons (.v 1) (.cons (.v 4) (.cons (.v 6) (.cons (.v 2) (.cons (.v 3) .nil))))))) .nil))))))))))
def fn_law_108 : Fn := ⟨1, 19, ir_law_108⟩
def tbL : List (Nat × Fn) := ([(6, fn_all_keys), (11, fn_texts_of), (12, fn_all_texts), (28, fn_states_along), (29, fn_state_after), (30, fn_put_in), (34, fn__law_keys), (47, fn_check_wanted), (48, fn_check_ending), (49, fn_plainly), (50, fn_typed), (51, fn_wrongs), (52, fn_first_wrong), (53, fn__law_error), (54, fn__law_call), (56, fn_check_key), (57, fn_Desk___init__), (58, fn_Desk___len__), (59, fn_Desk_press), (60, fn_Desk_view), (61, fn_Desk_state), (62, fn_Desk_pressed), (63, fn_Desk_taken_off), (64, fn__law_call_64), (0, fn_is_int), (1, fn_check_number), (2, fn_check_sight), (3, fn_is_key), (4, fn_is_row), (5, fn_check_row)] : List (Nat × Fn)) ++ ([(7, fn_is_letters), (8, fn_is_text), (9, fn_is_list), (10, fn_check_words), (13, fn_begun_with), (14, fn_fitting), (15, fn_common), (16, fn_offer_of), (17, fn_press_tab), (18, fn_press_end), (19, fn_press_back), (20, fn_step), (21, fn_view_of), (22, fn_is_one_of), (23, fn_is_way), (24, fn_check_way), (92, fn_check_family), (25, fn_states_of), (26, fn_shown), (27, fn_views_of), (93, fn_is_view), (94, fn_is_view_row), (95, fn_is_record), (96, fn_bar_of), (97, fn_first_bar), (98, fn_made), (99, fn_bars), (100, fn_remains), (101, fn_groups_by), (102, fn_check_all)] : List (Nat × Fn)) ++ ([(103, fn_groups), (31, fn__law_start), (32, fn__law_draw), (33, fn__law_pick), (104, fn__law_true), (35, fn__law_way), (36, fn__law_texts), (37, fn__law_list), (38, fn__law_row), (39, fn__law_fit), (40, fn__law_offer), (41, fn__law_tab), (42, fn__law_step), (43, fn__law_start_state), (44, fn__law_states), (45, fn__law_view), (109, fn__law_views_109), (106, fn__law_groups), (107, fn__law_clean), (108, fn_law_108)] : List (Nat × Fn))
def tbU (i : Nat) : Option Fn := tbL.lookup i
def d_is_int : Df := ⟨("is_int", none), "is_int", "is_int", (["value", "low", "high"] : List Str), (["value", "low", "high"] : List Str), defArgs (top 7), defBody (top 7), defScope (top 7), ⟨[], [], false, [], false⟩, [], [], [], [], [], ir_is_int⟩
def d_check_number : Df := ⟨("check_number", none), "check_number", "check_number", (["value", "low", "high"] : List Str), (["value", "low", "high"] : List Str), defArgs (top 8), defBody (top 8), defScope (top 8), ⟨[], [], false, [], false⟩, [("is_int", 0)], [], [], [], [], ir_check_number⟩
def d_check_sight : Df := ⟨("check_sight", none), "check_sight", "check_sight", (["value"] : List Str), (["value"] : List Str), defArgs (top 9), defBody (top 9), defScope (top 9), ⟨[], [], false, [], false⟩, [("check_number", 1)], [], [], [], [], ir_check_sight⟩
def d_is_key : Df := ⟨("is_key", none), "is_key", "is_key", (["value"] : List Str), (["value"] : List Str), defArgs (top 13), defBody (top 13), defScope (top 13), ⟨[], [], false, [], false⟩, [], [], [], [], [], ir_is_key⟩
def d_is_row : Df := ⟨("is_row", none), "is_row", "is_row", (["value"] : List Str), (["value", "one"] : List Str), defArgs (top 14), defBody (top 14), defScope (top 14), ⟨[], [], false, [], false⟩, [("is_key", 3)], [], [], [], [], ir_is_row⟩
def d_check_row : Df := ⟨("check_row", none), "check_row", "check_row", (["value"] : List Str), (["value"] : List Str), defArgs (top 15), defBody (top 15), defScope (top 15), ⟨[], [], false, [], false⟩, [("is_row", 4)], [], [], [], [], ir_check_row⟩
def d_is_letters : Df := ⟨("is_letters", none), "is_letters", "is_letters", (["value", "least", "most"] : List Str), (["value", "least", "most", "letter"] : List Str), defArgs (top 18), defBody (top 18), defScope (top 18), ⟨[], [], false, [], false⟩, [], [], [], [], [], ir_is_letters⟩
def d_is_text : Df := ⟨("is_text", none), "is_text", "is_text", (["value"] : List Str), (["value"] : List Str), defArgs (top 19), defBody (top 19), defScope (top 19), ⟨[], [], false, [], false⟩, [("is_letters", 7)], [], [], [], [], ir_is_text⟩
def d_is_list : Df := ⟨("is_list", none), "is_list", "is_list", (["value"] : List Str), (["value", "one"] : List Str), defArgs (top 20), defBody (top 20), defScope (top 20), ⟨[], [], false, [], false⟩, [("is_letters", 7)], [], [], [], [], ir_is_list⟩
def d_check_words : Df := ⟨("check_words", none), "check_words", "check_words", (["value"] : List Str), (["value"] : List Str), defArgs (top 21), defBody (top 21), defScope (top 21), ⟨[], [], false, [], false⟩, [("is_list", 9)], [], [], [], [], ir_check_words⟩
def d_begun_with : Df := ⟨("begun_with", none), "begun_with", "begun_with", (["words"] : List Str), (["words"] : List Str), defArgs (top 23), defBody (top 23), defScope (top 23), ⟨[], [], false, [], false⟩, [], [], [], [], [], ir_begun_with⟩
def d_fitting : Df := ⟨("fitting", none), "fitting", "fitting", (["order", "text"] : List Str), (["order", "text", "word"] : List Str), defArgs (top 24), defBody (top 24), defScope (top 24), ⟨[], [], false, [], false⟩, [], [], [], [], [], ir_fitting⟩
def d_common : Df := ⟨("common", none), "common", "common", (["rests"] : List Str), (["rests", "found", "place", "letter", "rest"] : List Str), defArgs (top 25), defBody (top 25), defScope (top 25), ⟨[1], [], false, [], false⟩, [], [], [], [], [], ir_common⟩
def d_offer_of : Df := ⟨("offer_of", none), "offer_of", "offer_of", (["way", "state"] : List Str), (["way", "state", "text", "begun", "quiet", "order", "put", "words", "rests", "word", "lengths", "rest"] : List Str), defArgs (top 26), defBody (top 26), defScope (top 26), ⟨[], [], false, [], false⟩, [("fitting", 14), ("common", 15)], [], [], [], [], ir_offer_of⟩
def d_press_tab : Df := ⟨("press_tab", none), "press_tab", "press_tab", (["way", "state"] : List Str), (["way", "state", "text", "begun", "quiet", "order", "put", "offer", "words", "place"] : List Str), defArgs (top 27), defBody (top 27), defScope (top 27), ⟨[], [], false, [], false⟩, [("offer_of", 16), ("fitting", 14)], [], [], [], [], ir_press_tab⟩
def d_press_end : Df := ⟨("press_end", none), "press_end", "press_end", (["way", "state", "takes"] : List Str), (["way", "state", "takes", "text", "begun", "quiet", "order", "put", "word"] : List Str), defArgs (top 28), defBody (top 28), defScope (top 28), ⟨[3], [], false, [], false⟩, [("offer_of", 16)], [], [], [], [], ir_press_end⟩
def d_press_back : Df := ⟨("press_back", none), "press_back", "press_back", (["way", "state"] : List Str), (["way", "state", "text", "begun", "quiet", "order", "put"] : List Str), defArgs (top 29), defBody (top 29), defScope (top 29), ⟨[], [], false, [], false⟩, [("offer_of", 16)], [], [], [], [], ir_press_back⟩
def d_step : Df := ⟨("step", none), "step", "step", (["way", "state", "key"] : List Str), (["way", "state", "key", "text", "begun", "quiet", "order", "put"] : List Str), defArgs (top 30), defBody (top 30), defScope (top 30), ⟨[], [], false, [], false⟩, [("press_tab", 17), ("press_end", 18), ("press_back", 19)], [], [], [], [], ir_step⟩
def d_view_of : Df := ⟨("view_of", none), "view_of", "view_of", (["way", "state", "sight"] : List Str), (["way", "state", "sight"] : List Str), defArgs (top 31), defBody (top 31), defScope (top 31), ⟨[], [], false, [], false⟩, [("offer_of", 16)], [], [], [], [], ir_view_of⟩
def d_is_one_of : Df := ⟨("is_one_of", none), "is_one_of", "is_one_of", (["value", "words"] : List Str), (["value", "words"] : List Str), defArgs (top 37), defBody (top 37), defScope (top 37), ⟨[], [], false, [], false⟩, [], [], [], [], [], ir_is_one_of⟩
def d_is_way : Df := ⟨("is_way", none), "is_way", "is_way", (["value"] : List Str), (["value"] : List Str), defArgs (top 38), defBody (top 38), defScope (top 38), ⟨[], [], false, [], false⟩, [("is_one_of", 22), ("is_int", 0)], [], [], [], [], ir_is_way⟩
def d_check_way : Df := ⟨("check_way", none), "check_way", "check_way", (["value"] : List Str), (["value"] : List Str), defArgs (top 39), defBody (top 39), defScope (top 39), ⟨[], [], false, [], false⟩, [("is_way", 23)], [], [], [], [], ir_check_way⟩
def d_check_family : Df := ⟨("check_family", none), "check_family", "check_family", (["value"] : List Str), (["value", "one"] : List Str), defArgs (top 40), defBody (top 40), defScope (top 40), ⟨[], [], false, [], false⟩, [("is_way", 23)], [], [], [], [], ir_check_family⟩
def d_states_of : Df := ⟨("states_of", none), "states_of", "states_of", (["way", "words", "row"] : List Str), (["way", "words", "row", "found", "key"] : List Str), defArgs (top 42), defBody (top 42), defScope (top 42), ⟨[3], [], false, [], false⟩, [("begun_with", 13), ("step", 20)], [], [], [], [], ir_states_of⟩
def d_shown : Df := ⟨("shown", none), "shown", "shown", (["way", "words", "sight", "row"] : List Str), (["way", "words", "sight", "row", "state"] : List Str), defArgs (top 43), defBody (top 43), defScope (top 43), ⟨[], [], false, [], false⟩, [("states_of", 25), ("view_of", 21)], [], [], [], [], ir_shown⟩
def d_views_of : Df := ⟨("views_of", none), "views_of", "views_of", (["way", "words", "sight", "row"] : List Str), (["way", "words", "sight", "row"] : List Str), defArgs (top 44), defBody (top 44), defScope (top 44), ⟨[], [], false, [], false⟩, [("check_way", 24), ("check_words", 10), ("check_sight", 2), ("check_row", 5), ("shown", 26)], [], [], [], [], ir_views_of⟩
def d_is_view : Df := ⟨("is_view", none), "is_view", "is_view", (["value", "sight"] : List Str), (["value", "sight", "one"] : List Str), defArgs (top 47), defBody (top 47), defScope (top 47), ⟨[], [], false, [], false⟩, [("is_text", 8)], [], [], [], [], ir_is_view⟩
def d_is_view_row : Df := ⟨("is_view_row", none), "is_view_row", "is_view_row", (["value", "sight"] : List Str), (["value", "sight", "one"] : List Str), defArgs (top 48), defBody (top 48), defScope (top 48), ⟨[], [], false, [], false⟩, [("is_view", 93)], [], [], [], [], ir_is_view_row⟩
def d_is_record : Df := ⟨("is_record", none), "is_record", "is_record", (["value", "sight"] : List Str), (["value", "sight"] : List Str), defArgs (top 49), defBody (top 49), defScope (top 49), ⟨[], [], false, [], false⟩, [("is_row", 4), ("is_view_row", 94)], [], [], [], [], ir_is_record⟩
def d_bar_of : Df := ⟨("bar_of", none), "bar_of", "bar_of", (["way", "words", "sight", "record"] : List Str), (["way", "words", "sight", "record", "place", "mine", "told"] : List Str), defArgs (top 50), defBody (top 50), defScope (top 50), ⟨[], [], false, [], false⟩, [("shown", 26)], [], [], [], [], ir_bar_of⟩
def d_first_bar : Df := ⟨("first_bar", none), "first_bar", "first_bar", (["way", "words", "sight", "record"] : List Str), (["way", "words", "sight", "record"] : List Str), defArgs (top 51), defBody (top 51), defScope (top 51), ⟨[], [], false, [], false⟩, [("check_way", 24), ("check_words", 10), ("check_sight", 2), ("is_record", 95), ("bar_of", 96)], [], [], [], [], ir_first_bar⟩
def d_made : Df := ⟨("made", none), "made", "made", (["way", "words", "sight", "record"] : List Str), (["way", "words", "sight", "record"] : List Str), defArgs (top 52), defBody (top 52), defScope (top 52), ⟨[], [], false, [], false⟩, [("first_bar", 97)], [], [], [], [], ir_made⟩
def d_bars : Df := ⟨("bars", none), "bars", "bars", (["family", "words", "sight", "records"] : List Str), (["family", "words", "sight", "records", "one", "found", "way", "places", "record", "barred", "place", "own"] : List Str), defArgs (top 53), defBody (top 53), defScope (top 53), ⟨[5], [], false, [], false⟩, [("check_family", 92), ("check_words", 10), ("check_sight", 2), ("is_record", 95), ("bar_of", 96)], [], [], [], [], ir_bars⟩
def d_remains : Df := ⟨("remains", none), "remains", "remains", (["family", "words", "sight", "records"] : List Str), (["family", "words", "sight", "records", "place", "one"] : List Str), defArgs (top 54), defBody (top 54), defScope (top 54), ⟨[], [], false, [], false⟩, [("bars", 99)], [], [], [], [], ir_remains⟩
def d_groups_by : Df := ⟨("groups_by", none), "groups_by", "groups_by", (["things"] : List Str), (["things", "found", "place", "one", "other"] : List Str), defArgs (top 56), defBody (top 56), defScope (top 56), ⟨[1], [], false, [], false⟩, [], [], [], [], [], ir_groups_by⟩
def d_check_all : Df := ⟨("check_all", none), "check_all", "check_all", (["family", "words", "sight"] : List Str), (["family", "words", "sight"] : List Str), defArgs (top 57), defBody (top 57), defScope (top 57), ⟨[], [], false, [], false⟩, [("check_family", 92), ("check_words", 10), ("check_sight", 2)], [], [], [], [], ir_check_all⟩
def d_groups : Df := ⟨("groups", none), "groups", "groups", (["family", "words", "sight", "row"] : List Str), (["family", "words", "sight", "row", "way"] : List Str), defArgs (top 59), defBody (top 59), defScope (top 59), ⟨[], [], false, [], false⟩, [("check_all", 102), ("check_row", 5), ("groups_by", 101), ("shown", 26)], [], [], [], [], ir_groups⟩
def d__law_start : Df := ⟨("_law_start", none), "_law_start", "_law_start", (["script"] : List Str), (["script"] : List Str), defArgs (top 61), defBody (top 61), defScope (top 61), ⟨[], [], true, [], false⟩, [], [], [], [], [], ir__law_start⟩
def d__law_draw : Df := ⟨("_law_draw", none), "_law_draw", "_law_draw", (["draws", "limit"] : List Str), (["draws", "limit", "numbers", "at", "cell", "mixed"] : List Str), defArgs (top 62), defBody (top 62), defScope (top 62), ⟨[], [], false, [], false⟩, [], [], [], [], [], ir__law_draw⟩
def d__law_pick : Df := ⟨("_law_pick", none), "_law_pick", "_law_pick", (["draws", "choices"] : List Str), (["draws", "choices"] : List Str), defArgs (top 63), defBody (top 63), defScope (top 63), ⟨[], [], false, [], false⟩, [("_law_draw", 32)], [], [], [], [], ir__law_pick⟩
def d__law_true : Df := ⟨("_law_true", none), "_law_true", "_law_true", (["value", "expected"] : List Str), (["value", "expected"] : List Str), defArgs (top 64), defBody (top 64), defScope (top 64), ⟨[], [], false, [], false⟩, [], [], [], [], [], ir__law_true⟩
def d__law_way : Df := ⟨("_law_way", none), "_law_way", "_law_way", (["draws"] : List Str), (["draws", "choice", "since", "accept", "again"] : List Str), defArgs (top 65), defBody (top 65), defScope (top 65), ⟨[], [], false, [], false⟩, [("_law_pick", 33), ("_law_draw", 32)], [], [], [], [], ir__law_way⟩
def d__law_texts : Df := ⟨("_law_texts", none), "_law_texts", "_law_texts", (["most"] : List Str), (["most", "found", "layer", "turn", "longer", "text"] : List Str), defArgs (top 66), defBody (top 66), defScope (top 66), ⟨[], [], false, [], false⟩, [], [], [], [], [], ir__law_texts⟩
def d__law_list : Df := ⟨("_law_list", none), "_law_list", "_law_list", (["draws", "many"] : List Str), (["draws", "many", "found", "left", "k", "word"] : List Str), defArgs (top 67), defBody (top 67), defScope (top 67), ⟨[2], [], false, [], false⟩, [("_law_texts", 36), ("_law_draw", 32), ("_law_pick", 33)], [], [], [], [], ir__law_list⟩
def d__law_row : Df := ⟨("_law_row", none), "_law_row", "_law_row", (["draws", "longest"] : List Str), (["draws", "longest", "k"] : List Str), defArgs (top 68), defBody (top 68), defScope (top 68), ⟨[], [], false, [], false⟩, [("_law_draw", 32), ("_law_pick", 33)], [], [], [], [], ir__law_row⟩
def d__law_fit : Df := ⟨("_law_fit", none), "_law_fit", "_law_fit", (["order", "text"] : List Str), (["order", "text", "word"] : List Str), defArgs (top 69), defBody (top 69), defScope (top 69), ⟨[], [], false, [], false⟩, [], [], [], [], [], ir__law_fit⟩
def d__law_offer : Df := ⟨("_law_offer", none), "_law_offer", "_law_offer", (["way", "state"] : List Str), (["way", "state", "rests", "least", "rest", "able", "k", "one"] : List Str), defArgs (top 70), defBody (top 70), defScope (top 70), ⟨[], [], false, [], false⟩, [("_law_fit", 39)], [], [], [], [], ir__law_offer⟩
def d__law_tab : Df := ⟨("_law_tab", none), "_law_tab", "_law_tab", (["way", "state"] : List Str), (["way", "state", "text", "begun", "quiet", "order", "put", "offer", "whole", "rest", "turned"] : List Str), defArgs (top 71), defBody (top 71), defScope (top 71), ⟨[], [], false, [], false⟩, [("_law_offer", 40), ("_law_fit", 39)], [], [], [], [], ir__law_tab⟩
def d__law_step : Df := ⟨("_law_step", none), "_law_step", "_law_step", (["way", "state", "key"] : List Str), (["way", "state", "key", "text", "begun", "quiet", "order", "put", "offer", "left", "whole", "word"] : List Str), defArgs (top 72), defBody (top 72), defScope (top 72), ⟨[], [], false, [], false⟩, [("_law_tab", 41), ("_law_offer", 40)], [], [], [], [], ir__law_step⟩
def d__law_start_state : Df := ⟨("_law_start_state", none), "_law_start_state", "_law_start_state", (["words"] : List Str), (["words"] : List Str), defArgs (top 73), defBody (top 73), defScope (top 73), ⟨[], [], false, [], false⟩, [], [], [], [], [], ir__law_start_state⟩
def d__law_states : Df := ⟨("_law_states", none), "_law_states", "_law_states", (["way", "words", "row"] : List Str), (["way", "words", "row", "found", "key"] : List Str), defArgs (top 74), defBody (top 74), defScope (top 74), ⟨[3], [], false, [], false⟩, [("_law_start_state", 43), ("_law_step", 42)], [], [], [], [], ir__law_states⟩
def d__law_view : Df := ⟨("_law_view", none), "_law_view", "_law_view", (["way", "state", "sight"] : List Str), (["way", "state", "sight"] : List Str), defArgs (top 75), defBody (top 75), defScope (top 75), ⟨[], [], false, [], false⟩, [("_law_offer", 40)], [], [], [], [], ir__law_view⟩
def d__law_views_109 : Df := ⟨("_law_views", none), "_law_views", "_law_views", (["way", "words", "sight", "row"] : List Str), (["way", "words", "sight", "row", "state"] : List Str), defArgs (top 76), defBody (top 76), defScope (top 76), ⟨[], [], true, [], false⟩, [("_law_states", 44), ("_law_view", 45)], [], [], [], [], ir__law_views_109⟩
def d__law_groups : Df := ⟨("_law_groups", none), "_law_groups", "_law_groups", (["told"] : List Str), (["told", "first", "k", "j"] : List Str), defArgs (top 77), defBody (top 77), defScope (top 77), ⟨[], [], false, [], false⟩, [], [], [], [], [], ir__law_groups⟩
def d__law_clean : Df := ⟨("_law_clean", none), "_law_clean", "_law_clean", (["draws", "family", "hidden", "words", "sight"] : List Str), (["draws", "family", "hidden", "words", "sight", "row", "clean", "left", "parts", "one", "group"] : List Str), defArgs (top 78), defBody (top 78), defScope (top 78), ⟨[], [], false, [], false⟩, [("_law_row", 38), ("views_of", 27), ("remains", 100), ("first_bar", 97), ("groups", 103), ("_law_groups", 106), ("_law_views", 109)], [], [], [], [], ir__law_clean⟩
def d_law_108 : Df := ⟨("law", none), "law", "law", (["script"] : List Str), (["script", "draws", "words", "sight", "family", "k", "hidden", "records", "turn", "row", "told", "at", "due", "one", "units", "own", "bad", "barred", "free"] : List Str), defArgs (top 79), defBody (top 79), defScope (top 79), ⟨[7, 12, 14], [(311, 10)], false, [], false⟩, [("_law_start", 31), ("_law_list", 37), ("_law_draw", 32), ("_law_way", 35), ("_law_row", 38), ("_law_views", 109), ("_law_pick", 33), ("first_bar", 97), ("_law_true", 104), ("made", 98), ("remains", 100), ("bars", 99), ("_law_clean", 107)], [], [], [], [], ir_law_108⟩
def pr : Pr := ⟨([(0, d_is_int), (1, d_check_number), (2, d_check_sight), (3, d_is_key), (4, d_is_row), (5, d_check_row), (7, d_is_letters), (8, d_is_text), (9, d_is_list), (10, d_check_words), (13, d_begun_with), (14, d_fitting), (15, d_common), (16, d_offer_of), (17, d_press_tab), (18, d_press_end), (19, d_press_back), (20, d_step), (21, d_view_of), (22, d_is_one_of), (23, d_is_way), (24, d_check_way), (92, d_check_family), (25, d_states_of), (26, d_shown), (27, d_views_of), (93, d_is_view), (94, d_is_view_row), (95, d_is_record), (96, d_bar_of)] : List (Nat × Df)) ++ ([(97, d_first_bar), (98, d_made), (99, d_bars), (100, d_remains), (101, d_groups_by), (102, d_check_all), (103, d_groups), (31, d__law_start), (32, d__law_draw), (33, d__law_pick), (104, d__law_true), (35, d__law_way), (36, d__law_texts), (37, d__law_list), (38, d__law_row), (39, d__law_fit), (40, d__law_offer), (41, d__law_tab), (42, d__law_step), (43, d__law_start_state), (44, d__law_states), (45, d__law_view), (109, d__law_views_109), (106, d__law_groups), (107, d__law_clean), (108, d_law_108)] : List (Nat × Df)), [("KEYS", 0), ("MOST_ROW", 1), ("MOST_TEXT", 2), ("CHOICES", 3), ("ACCEPTS", 4), ("AGAINS", 5), ("BACKS", 6), ("MOST_VIEWS", 7)], (["FieldError", "BadWay", "BadWords", "BadKeys", "BadNumber", "BadViews"] : List Str), [], tbU⟩
abbrev lawFu : Nat := 100000
abbrev FU : Nat := 100000
abbrev lawLv : Nat := 20
end FO

set_option Elab.async false
set_option linter.all false
set_option maxRecDepth 100000
set_option maxHeartbeats 0
namespace FO
open PySem PySem.Spec PyProof.Rows L2
theorem all_nil {α : Type} {Q : α → Prop} : ∀ x ∈ ([] : List α), Q x := fun _ h => nomatch h
theorem all_cons {α : Type} {Q : α → Prop} {a : α} {l : List α} (h : Q a) (hl : ∀ x ∈ l, Q x) : ∀ x ∈ a :: l, Q x := fun x hx => (List.mem_cons.mp hx).elim (fun e => e ▸ h) (hl x)
theorem ok_is_int : d_is_int.Ok pr 0 := ⟨rfl, ⟨rfl, rfl, rfl, by decide +kernel, rfl, by decide +kernel, by decide +kernel⟩, ⟨40, by kernel_rfl⟩, (fun _ _ _ _ _ _ us hl => match us, hl with | [_, _, _], _ => rfl), by decide +kernel, by decide +kernel, by decide +kernel, by decide +kernel, by decide +kernel⟩
theorem ok_check_number : d_check_number.Ok pr 1 := ⟨rfl, ⟨rfl, rfl, rfl, by decide +kernel, rfl, by decide +kernel, by decide +kernel⟩, ⟨40, by kernel_rfl⟩, (fun _ _ _ _ _ _ us hl => match us, hl with | [_, _, _], _ => rfl), by decide +kernel, by decide +kernel, by decide +kernel, by decide +kernel, by decide +kernel⟩
theorem ok_check_sight : d_check_sight.Ok pr 2 := ⟨rfl, ⟨rfl, rfl, rfl, by decide +kernel, rfl, by decide +kernel, by decide +kernel⟩, ⟨40, by kernel_rfl⟩, (fun _ _ _ _ _ _ us hl => match us, hl with | [_], _ => rfl), by decide +kernel, by decide +kernel, by decide +kernel, by decide +kernel, by decide +kernel⟩
theorem ok_is_key : d_is_key.Ok pr 3 := ⟨rfl, ⟨rfl, rfl, rfl, by decide +kernel, rfl, by decide +kernel, by decide +kernel⟩, ⟨40, by kernel_rfl⟩, (fun _ _ _ _ _ _ us hl => match us, hl with | [_], _ => rfl), by decide +kernel, by decide +kernel, by decide +kernel, by decide +kernel, by decide +kernel⟩
theorem ok_is_row : d_is_row.Ok pr 4 := ⟨rfl, ⟨rfl, rfl, rfl, by decide +kernel, rfl, by decide +kernel, by decide +kernel⟩, ⟨40, by kernel_rfl⟩, (fun _ _ _ _ _ _ us hl => match us, hl with | [_], _ => rfl), by decide +kernel, by decide +kernel, by decide +kernel, by decide +kernel, by decide +kernel⟩
theorem ok_check_row : d_check_row.Ok pr 5 := ⟨rfl, ⟨rfl, rfl, rfl, by decide +kernel, rfl, by decide +kernel, by decide +kernel⟩, ⟨40, by kernel_rfl⟩, (fun _ _ _ _ _ _ us hl => match us, hl with | [_], _ => rfl), by decide +kernel, by decide +kernel, by decide +kernel, by decide +kernel, by decide +kernel⟩
theorem ok_is_letters : d_is_letters.Ok pr 7 := ⟨rfl, ⟨rfl, rfl, rfl, by decide +kernel, rfl, by decide +kernel, by decide +kernel⟩, ⟨40, by kernel_rfl⟩, (fun _ _ _ _ _ _ us hl => match us, hl with | [_, _, _], _ => rfl), by decide +kernel, by decide +kernel, by decide +kernel, by decide +kernel, by decide +kernel⟩
theorem ok_is_text : d_is_text.Ok pr 8 := ⟨rfl, ⟨rfl, rfl, rfl, by decide +kernel, rfl, by decide +kernel, by decide +kernel⟩, ⟨40, by kernel_rfl⟩, (fun _ _ _ _ _ _ us hl => match us, hl with | [_], _ => rfl), by decide +kernel, by decide +kernel, by decide +kernel, by decide +kernel, by decide +kernel⟩
theorem ok_is_list : d_is_list.Ok pr 9 := ⟨rfl, ⟨rfl, rfl, rfl, by decide +kernel, rfl, by decide +kernel, by decide +kernel⟩, ⟨40, by kernel_rfl⟩, (fun _ _ _ _ _ _ us hl => match us, hl with | [_], _ => rfl), by decide +kernel, by decide +kernel, by decide +kernel, by decide +kernel, by decide +kernel⟩
theorem ok_check_words : d_check_words.Ok pr 10 := ⟨rfl, ⟨rfl, rfl, rfl, by decide +kernel, rfl, by decide +kernel, by decide +kernel⟩, ⟨40, by kernel_rfl⟩, (fun _ _ _ _ _ _ us hl => match us, hl with | [_], _ => rfl), by decide +kernel, by decide +kernel, by decide +kernel, by decide +kernel, by decide +kernel⟩
theorem ok_begun_with : d_begun_with.Ok pr 13 := ⟨rfl, ⟨rfl, rfl, rfl, by decide +kernel, rfl, by decide +kernel, by decide +kernel⟩, ⟨40, by kernel_rfl⟩, (fun _ _ _ _ _ _ us hl => match us, hl with | [_], _ => rfl), by decide +kernel, by decide +kernel, by decide +kernel, by decide +kernel, by decide +kernel⟩
theorem ok_fitting : d_fitting.Ok pr 14 := ⟨rfl, ⟨rfl, rfl, rfl, by decide +kernel, rfl, by decide +kernel, by decide +kernel⟩, ⟨40, by kernel_rfl⟩, (fun _ _ _ _ _ _ us hl => match us, hl with | [_, _], _ => rfl), by decide +kernel, by decide +kernel, by decide +kernel, by decide +kernel, by decide +kernel⟩
theorem ok_common : d_common.Ok pr 15 := ⟨rfl, ⟨rfl, rfl, rfl, by decide +kernel, rfl, by decide +kernel, by decide +kernel⟩, ⟨40, by kernel_rfl⟩, (fun _ _ _ _ _ _ us hl => match us, hl with | [_], _ => rfl), by decide +kernel, by decide +kernel, by decide +kernel, by decide +kernel, by decide +kernel⟩
theorem ok_offer_of : d_offer_of.Ok pr 16 := ⟨rfl, ⟨rfl, rfl, rfl, by decide +kernel, rfl, by decide +kernel, by decide +kernel⟩, ⟨40, by kernel_rfl⟩, (fun _ _ _ _ _ _ us hl => match us, hl with | [_, _], _ => rfl), by decide +kernel, by decide +kernel, by decide +kernel, by decide +kernel, by decide +kernel⟩
theorem ok_press_tab : d_press_tab.Ok pr 17 := ⟨rfl, ⟨rfl, rfl, rfl, by decide +kernel, rfl, by decide +kernel, by decide +kernel⟩, ⟨40, by kernel_rfl⟩, (fun _ _ _ _ _ _ us hl => match us, hl with | [_, _], _ => rfl), by decide +kernel, by decide +kernel, by decide +kernel, by decide +kernel, by decide +kernel⟩
theorem ok_press_end : d_press_end.Ok pr 18 := ⟨rfl, ⟨rfl, rfl, rfl, by decide +kernel, rfl, by decide +kernel, by decide +kernel⟩, ⟨40, by kernel_rfl⟩, (fun _ _ _ _ _ _ us hl => match us, hl with | [_, _, _], _ => rfl), by decide +kernel, by decide +kernel, by decide +kernel, by decide +kernel, by decide +kernel⟩
theorem ok_press_back : d_press_back.Ok pr 19 := ⟨rfl, ⟨rfl, rfl, rfl, by decide +kernel, rfl, by decide +kernel, by decide +kernel⟩, ⟨40, by kernel_rfl⟩, (fun _ _ _ _ _ _ us hl => match us, hl with | [_, _], _ => rfl), by decide +kernel, by decide +kernel, by decide +kernel, by decide +kernel, by decide +kernel⟩
theorem ok_step : d_step.Ok pr 20 := ⟨rfl, ⟨rfl, rfl, rfl, by decide +kernel, rfl, by decide +kernel, by decide +kernel⟩, ⟨40, by kernel_rfl⟩, (fun _ _ _ _ _ _ us hl => match us, hl with | [_, _, _], _ => rfl), by decide +kernel, by decide +kernel, by decide +kernel, by decide +kernel, by decide +kernel⟩
theorem ok_view_of : d_view_of.Ok pr 21 := ⟨rfl, ⟨rfl, rfl, rfl, by decide +kernel, rfl, by decide +kernel, by decide +kernel⟩, ⟨40, by kernel_rfl⟩, (fun _ _ _ _ _ _ us hl => match us, hl with | [_, _, _], _ => rfl), by decide +kernel, by decide +kernel, by decide +kernel, by decide +kernel, by decide +kernel⟩
theorem ok_is_one_of : d_is_one_of.Ok pr 22 := ⟨rfl, ⟨rfl, rfl, rfl, by decide +kernel, rfl, by decide +kernel, by decide +kernel⟩, ⟨40, by kernel_rfl⟩, (fun _ _ _ _ _ _ us hl => match us, hl with | [_, _], _ => rfl), by decide +kernel, by decide +kernel, by decide +kernel, by decide +kernel, by decide +kernel⟩
theorem ok_is_way : d_is_way.Ok pr 23 := ⟨rfl, ⟨rfl, rfl, rfl, by decide +kernel, rfl, by decide +kernel, by decide +kernel⟩, ⟨40, by kernel_rfl⟩, (fun _ _ _ _ _ _ us hl => match us, hl with | [_], _ => rfl), by decide +kernel, by decide +kernel, by decide +kernel, by decide +kernel, by decide +kernel⟩
theorem ok_check_way : d_check_way.Ok pr 24 := ⟨rfl, ⟨rfl, rfl, rfl, by decide +kernel, rfl, by decide +kernel, by decide +kernel⟩, ⟨40, by kernel_rfl⟩, (fun _ _ _ _ _ _ us hl => match us, hl with | [_], _ => rfl), by decide +kernel, by decide +kernel, by decide +kernel, by decide +kernel, by decide +kernel⟩
theorem ok_check_family : d_check_family.Ok pr 92 := ⟨rfl, ⟨rfl, rfl, rfl, by decide +kernel, rfl, by decide +kernel, by decide +kernel⟩, ⟨40, by kernel_rfl⟩, (fun _ _ _ _ _ _ us hl => match us, hl with | [_], _ => rfl), by decide +kernel, by decide +kernel, by decide +kernel, by decide +kernel, by decide +kernel⟩
theorem ok_states_of : d_states_of.Ok pr 25 := ⟨rfl, ⟨rfl, rfl, rfl, by decide +kernel, rfl, by decide +kernel, by decide +kernel⟩, ⟨40, by kernel_rfl⟩, (fun _ _ _ _ _ _ us hl => match us, hl with | [_, _, _], _ => rfl), by decide +kernel, by decide +kernel, by decide +kernel, by decide +kernel, by decide +kernel⟩
theorem ok_shown : d_shown.Ok pr 26 := ⟨rfl, ⟨rfl, rfl, rfl, by decide +kernel, rfl, by decide +kernel, by decide +kernel⟩, ⟨40, by kernel_rfl⟩, (fun _ _ _ _ _ _ us hl => match us, hl with | [_, _, _, _], _ => rfl), by decide +kernel, by decide +kernel, by decide +kernel, by decide +kernel, by decide +kernel⟩
theorem ok_views_of : d_views_of.Ok pr 27 := ⟨rfl, ⟨rfl, rfl, rfl, by decide +kernel, rfl, by decide +kernel, by decide +kernel⟩, ⟨40, by kernel_rfl⟩, (fun _ _ _ _ _ _ us hl => match us, hl with | [_, _, _, _], _ => rfl), by decide +kernel, by decide +kernel, by decide +kernel, by decide +kernel, by decide +kernel⟩
theorem ok_is_view : d_is_view.Ok pr 93 := ⟨rfl, ⟨rfl, rfl, rfl, by decide +kernel, rfl, by decide +kernel, by decide +kernel⟩, ⟨40, by kernel_rfl⟩, (fun _ _ _ _ _ _ us hl => match us, hl with | [_, _], _ => rfl), by decide +kernel, by decide +kernel, by decide +kernel, by decide +kernel, by decide +kernel⟩
theorem ok_is_view_row : d_is_view_row.Ok pr 94 := ⟨rfl, ⟨rfl, rfl, rfl, by decide +kernel, rfl, by decide +kernel, by decide +kernel⟩, ⟨40, by kernel_rfl⟩, (fun _ _ _ _ _ _ us hl => match us, hl with | [_, _], _ => rfl), by decide +kernel, by decide +kernel, by decide +kernel, by decide +kernel, by decide +kernel⟩
theorem ok_is_record : d_is_record.Ok pr 95 := ⟨rfl, ⟨rfl, rfl, rfl, by decide +kernel, rfl, by decide +kernel, by decide +kernel⟩, ⟨40, by kernel_rfl⟩, (fun _ _ _ _ _ _ us hl => match us, hl with | [_, _], _ => rfl), by decide +kernel, by decide +kernel, by decide +kernel, by decide +kernel, by decide +kernel⟩
theorem ok_bar_of : d_bar_of.Ok pr 96 := ⟨rfl, ⟨rfl, rfl, rfl, by decide +kernel, rfl, by decide +kernel, by decide +kernel⟩, ⟨40, by kernel_rfl⟩, (fun _ _ _ _ _ _ us hl => match us, hl with | [_, _, _, _], _ => rfl), by decide +kernel, by decide +kernel, by decide +kernel, by decide +kernel, by decide +kernel⟩
theorem ok_first_bar : d_first_bar.Ok pr 97 := ⟨rfl, ⟨rfl, rfl, rfl, by decide +kernel, rfl, by decide +kernel, by decide +kernel⟩, ⟨40, by kernel_rfl⟩, (fun _ _ _ _ _ _ us hl => match us, hl with | [_, _, _, _], _ => rfl), by decide +kernel, by decide +kernel, by decide +kernel, by decide +kernel, by decide +kernel⟩
theorem ok_made : d_made.Ok pr 98 := ⟨rfl, ⟨rfl, rfl, rfl, by decide +kernel, rfl, by decide +kernel, by decide +kernel⟩, ⟨40, by kernel_rfl⟩, (fun _ _ _ _ _ _ us hl => match us, hl with | [_, _, _, _], _ => rfl), by decide +kernel, by decide +kernel, by decide +kernel, by decide +kernel, by decide +kernel⟩
theorem ok_bars : d_bars.Ok pr 99 := ⟨rfl, ⟨rfl, rfl, rfl, by decide +kernel, rfl, by decide +kernel, by decide +kernel⟩, ⟨40, by kernel_rfl⟩, (fun _ _ _ _ _ _ us hl => match us, hl with | [_, _, _, _], _ => rfl), by decide +kernel, by decide +kernel, by decide +kernel, by decide +kernel, by decide +kernel⟩
theorem ok_remains : d_remains.Ok pr 100 := ⟨rfl, ⟨rfl, rfl, rfl, by decide +kernel, rfl, by decide +kernel, by decide +kernel⟩, ⟨40, by kernel_rfl⟩, (fun _ _ _ _ _ _ us hl => match us, hl with | [_, _, _, _], _ => rfl), by decide +kernel, by decide +kernel, by decide +kernel, by decide +kernel, by decide +kernel⟩
theorem ok_groups_by : d_groups_by.Ok pr 101 := ⟨rfl, ⟨rfl, rfl, rfl, by decide +kernel, rfl, by decide +kernel, by decide +kernel⟩, ⟨40, by kernel_rfl⟩, (fun _ _ _ _ _ _ us hl => match us, hl with | [_], _ => rfl), by decide +kernel, by decide +kernel, by decide +kernel, by decide +kernel, by decide +kernel⟩
theorem ok_check_all : d_check_all.Ok pr 102 := ⟨rfl, ⟨rfl, rfl, rfl, by decide +kernel, rfl, by decide +kernel, by decide +kernel⟩, ⟨40, by kernel_rfl⟩, (fun _ _ _ _ _ _ us hl => match us, hl with | [_, _, _], _ => rfl), by decide +kernel, by decide +kernel, by decide +kernel, by decide +kernel, by decide +kernel⟩
theorem ok_groups : d_groups.Ok pr 103 := ⟨rfl, ⟨rfl, rfl, rfl, by decide +kernel, rfl, by decide +kernel, by decide +kernel⟩, ⟨40, by kernel_rfl⟩, (fun _ _ _ _ _ _ us hl => match us, hl with | [_, _, _, _], _ => rfl), by decide +kernel, by decide +kernel, by decide +kernel, by decide +kernel, by decide +kernel⟩
theorem ok__law_start : d__law_start.Ok pr 31 := ⟨rfl, ⟨rfl, rfl, rfl, by decide +kernel, rfl, by decide +kernel, by decide +kernel⟩, ⟨40, by kernel_rfl⟩, (fun _ _ _ _ _ _ us hl => match us, hl with | [_], _ => rfl), by decide +kernel, by decide +kernel, by decide +kernel, by decide +kernel, by decide +kernel⟩
theorem ok__law_draw : d__law_draw.Ok pr 32 := ⟨rfl, ⟨rfl, rfl, rfl, by decide +kernel, rfl, by decide +kernel, by decide +kernel⟩, ⟨40, by kernel_rfl⟩, (fun _ _ _ _ _ _ us hl => match us, hl with | [_, _], _ => rfl), by decide +kernel, by decide +kernel, by decide +kernel, by decide +kernel, by decide +kernel⟩
theorem ok__law_pick : d__law_pick.Ok pr 33 := ⟨rfl, ⟨rfl, rfl, rfl, by decide +kernel, rfl, by decide +kernel, by decide +kernel⟩, ⟨40, by kernel_rfl⟩, (fun _ _ _ _ _ _ us hl => match us, hl with | [_, _], _ => rfl), by decide +kernel, by decide +kernel, by decide +kernel, by decide +kernel, by decide +kernel⟩
theorem ok__law_true : d__law_true.Ok pr 104 := ⟨rfl, ⟨rfl, rfl, rfl, by decide +kernel, rfl, by decide +kernel, by decide +kernel⟩, ⟨40, by kernel_rfl⟩, (fun _ _ _ _ _ _ us hl => match us, hl with | [_, _], _ => rfl), by decide +kernel, by decide +kernel, by decide +kernel, by decide +kernel, by decide +kernel⟩
theorem ok__law_way : d__law_way.Ok pr 35 := ⟨rfl, ⟨rfl, rfl, rfl, by decide +kernel, rfl, by decide +kernel, by decide +kernel⟩, ⟨40, by kernel_rfl⟩, (fun _ _ _ _ _ _ us hl => match us, hl with | [_], _ => rfl), by decide +kernel, by decide +kernel, by decide +kernel, by decide +kernel, by decide +kernel⟩
theorem ok__law_texts : d__law_texts.Ok pr 36 := ⟨rfl, ⟨rfl, rfl, rfl, by decide +kernel, rfl, by decide +kernel, by decide +kernel⟩, ⟨40, by kernel_rfl⟩, (fun _ _ _ _ _ _ us hl => match us, hl with | [_], _ => rfl), by decide +kernel, by decide +kernel, by decide +kernel, by decide +kernel, by decide +kernel⟩
theorem ok__law_list : d__law_list.Ok pr 37 := ⟨rfl, ⟨rfl, rfl, rfl, by decide +kernel, rfl, by decide +kernel, by decide +kernel⟩, ⟨40, by kernel_rfl⟩, (fun _ _ _ _ _ _ us hl => match us, hl with | [_, _], _ => rfl), by decide +kernel, by decide +kernel, by decide +kernel, by decide +kernel, by decide +kernel⟩
theorem ok__law_row : d__law_row.Ok pr 38 := ⟨rfl, ⟨rfl, rfl, rfl, by decide +kernel, rfl, by decide +kernel, by decide +kernel⟩, ⟨40, by kernel_rfl⟩, (fun _ _ _ _ _ _ us hl => match us, hl with | [_, _], _ => rfl), by decide +kernel, by decide +kernel, by decide +kernel, by decide +kernel, by decide +kernel⟩
theorem ok__law_fit : d__law_fit.Ok pr 39 := ⟨rfl, ⟨rfl, rfl, rfl, by decide +kernel, rfl, by decide +kernel, by decide +kernel⟩, ⟨40, by kernel_rfl⟩, (fun _ _ _ _ _ _ us hl => match us, hl with | [_, _], _ => rfl), by decide +kernel, by decide +kernel, by decide +kernel, by decide +kernel, by decide +kernel⟩
theorem ok__law_offer : d__law_offer.Ok pr 40 := ⟨rfl, ⟨rfl, rfl, rfl, by decide +kernel, rfl, by decide +kernel, by decide +kernel⟩, ⟨40, by kernel_rfl⟩, (fun _ _ _ _ _ _ us hl => match us, hl with | [_, _], _ => rfl), by decide +kernel, by decide +kernel, by decide +kernel, by decide +kernel, by decide +kernel⟩
theorem ok__law_tab : d__law_tab.Ok pr 41 := ⟨rfl, ⟨rfl, rfl, rfl, by decide +kernel, rfl, by decide +kernel, by decide +kernel⟩, ⟨40, by kernel_rfl⟩, (fun _ _ _ _ _ _ us hl => match us, hl with | [_, _], _ => rfl), by decide +kernel, by decide +kernel, by decide +kernel, by decide +kernel, by decide +kernel⟩
theorem ok__law_step : d__law_step.Ok pr 42 := ⟨rfl, ⟨rfl, rfl, rfl, by decide +kernel, rfl, by decide +kernel, by decide +kernel⟩, ⟨40, by kernel_rfl⟩, (fun _ _ _ _ _ _ us hl => match us, hl with | [_, _, _], _ => rfl), by decide +kernel, by decide +kernel, by decide +kernel, by decide +kernel, by decide +kernel⟩
theorem ok__law_start_state : d__law_start_state.Ok pr 43 := ⟨rfl, ⟨rfl, rfl, rfl, by decide +kernel, rfl, by decide +kernel, by decide +kernel⟩, ⟨40, by kernel_rfl⟩, (fun _ _ _ _ _ _ us hl => match us, hl with | [_], _ => rfl), by decide +kernel, by decide +kernel, by decide +kernel, by decide +kernel, by decide +kernel⟩
theorem ok__law_states : d__law_states.Ok pr 44 := ⟨rfl, ⟨rfl, rfl, rfl, by decide +kernel, rfl, by decide +kernel, by decide +kernel⟩, ⟨40, by kernel_rfl⟩, (fun _ _ _ _ _ _ us hl => match us, hl with | [_, _, _], _ => rfl), by decide +kernel, by decide +kernel, by decide +kernel, by decide +kernel, by decide +kernel⟩
theorem ok__law_view : d__law_view.Ok pr 45 := ⟨rfl, ⟨rfl, rfl, rfl, by decide +kernel, rfl, by decide +kernel, by decide +kernel⟩, ⟨40, by kernel_rfl⟩, (fun _ _ _ _ _ _ us hl => match us, hl with | [_, _, _], _ => rfl), by decide +kernel, by decide +kernel, by decide +kernel, by decide +kernel, by decide +kernel⟩
theorem ok__law_views_109 : d__law_views_109.Ok pr 109 := ⟨rfl, ⟨rfl, rfl, rfl, by decide +kernel, rfl, by decide +kernel, by decide +kernel⟩, ⟨40, by kernel_rfl⟩, (fun _ _ _ _ _ _ us hl => match us, hl with | [_, _, _, _], _ => rfl), by decide +kernel, by decide +kernel, by decide +kernel, by decide +kernel, by decide +kernel⟩
theorem ok__law_groups : d__law_groups.Ok pr 106 := ⟨rfl, ⟨rfl, rfl, rfl, by decide +kernel, rfl, by decide +kernel, by decide +kernel⟩, ⟨40, by kernel_rfl⟩, (fun _ _ _ _ _ _ us hl => match us, hl with | [_], _ => rfl), by decide +kernel, by decide +kernel, by decide +kernel, by decide +kernel, by decide +kernel⟩
theorem ok__law_clean : d__law_clean.Ok pr 107 := ⟨rfl, ⟨rfl, rfl, rfl, by decide +kernel, rfl, by decide +kernel, by decide +kernel⟩, ⟨40, by kernel_rfl⟩, (fun _ _ _ _ _ _ us hl => match us, hl with | [_, _, _, _, _], _ => rfl), by decide +kernel, by decide +kernel, by decide +kernel, by decide +kernel, by decide +kernel⟩
theorem ok_law_108 : d_law_108.Ok pr 108 := ⟨rfl, ⟨rfl, rfl, rfl, by decide +kernel, rfl, by decide +kernel, by decide +kernel⟩, ⟨40, by kernel_rfl⟩, (fun _ _ _ _ _ _ us hl => match us, hl with | [_], _ => rfl), by decide +kernel, by decide +kernel, by decide +kernel, by decide +kernel, by decide +kernel⟩
theorem oks : ∀ d ∈ pr.defs, d.2.Ok pr d.1 := (all_cons (Q := fun q : Nat × Df => q.2.Ok pr q.1) ok_is_int (all_cons (Q := fun q : Nat × Df => q.2.Ok pr q.1) ok_check_number (all_cons (Q := fun q : Nat × Df => q.2.Ok pr q.1) ok_check_sight (all_cons (Q := fun q : Nat × Df => q.2.Ok pr q.1) ok_is_key (all_cons (Q := fun q : Nat × Df => q.2.Ok pr q.1) ok_is_row (all_cons (Q := fun q : Nat × Df => q.2.Ok pr q.1) ok_check_row (all_cons (Q := fun q : Nat × Df => q.2.Ok pr q.1) ok_is_letters (all_cons (Q := fun q : Nat × Df => q.2.Ok pr q.1) ok_is_text (all_cons (Q := fun q : Nat × Df => q.2.Ok pr q.1) ok_is_list (all_cons (Q := fun q : Nat × Df => q.2.Ok pr q.1) ok_check_words (all_cons (Q := fun q : Nat × Df => q.2.Ok pr q.1) ok_begun_with (all_cons (Q := fun q : Nat × Df => q.2.Ok pr q.1) ok_fitting (all_cons (Q := fun q : Nat × Df => q.2.Ok pr q.1) ok_common (all_cons (Q := fun q : Nat × Df => q.2.Ok pr q.1) ok_offer_of (all_cons (Q := fun q : Nat × Df => q.2.Ok pr q.1) ok_press_tab (all_cons (Q := fun q : Nat × Df => q.2.Ok pr q.1) ok_press_end (all_cons (Q := fun q : Nat × Df => q.2.Ok pr q.1) ok_press_back (all_cons (Q := fun q : Nat × Df => q.2.Ok pr q.1) ok_step (all_cons (Q := fun q : Nat × Df => q.2.Ok pr q.1) ok_view_of (all_cons (Q := fun q : Nat × Df => q.2.Ok pr q.1) ok_is_one_of (all_cons (Q := fun q : Nat × Df => q.2.Ok pr q.1) ok_is_way (all_cons (Q := fun q : Nat × Df => q.2.Ok pr q.1) ok_check_way (all_cons (Q := fun q : Nat × Df => q.2.Ok pr q.1) ok_check_family (all_cons (Q := fun q : Nat × Df => q.2.Ok pr q.1) ok_states_of (all_cons (Q := fun q : Nat × Df => q.2.Ok pr q.1) ok_shown (all_cons (Q := fun q : Nat × Df => q.2.Ok pr q.1) ok_views_of (all_cons (Q := fun q : Nat × Df => q.2.Ok pr q.1) ok_is_view (all_cons (Q := fun q : Nat × Df => q.2.Ok pr q.1) ok_is_view_row (all_cons (Q := fun q : Nat × Df => q.2.Ok pr q.1) ok_is_record (all_cons (Q := fun q : Nat × Df => q.2.Ok pr q.1) ok_bar_of (all_cons (Q := fun q : Nat × Df => q.2.Ok pr q.1) ok_first_bar (all_cons (Q := fun q : Nat × Df => q.2.Ok pr q.1) ok_made (all_cons (Q := fun q : Nat × Df => q.2.Ok pr q.1) ok_bars (all_cons (Q := fun q : Nat × Df => q.2.Ok pr q.1) ok_remains (all_cons (Q := fun q : Nat × Df => q.2.Ok pr q.1) ok_groups_by (all_cons (Q := fun q : Nat × Df => q.2.Ok pr q.1) ok_check_all (all_cons (Q := fun q : Nat × Df => q.2.Ok pr q.1) ok_groups (all_cons (Q := fun q : Nat × Df => q.2.Ok pr q.1) ok__law_start (all_cons (Q := fun q : Nat × Df => q.2.Ok pr q.1) ok__law_draw (all_cons (Q := fun q : Nat × Df => q.2.Ok pr q.1) ok__law_pick (all_cons (Q := fun q : Nat × Df => q.2.Ok pr q.1) ok__law_true (all_cons (Q := fun q : Nat × Df => q.2.Ok pr q.1) ok__law_way (all_cons (Q := fun q : Nat × Df => q.2.Ok pr q.1) ok__law_texts (all_cons (Q := fun q : Nat × Df => q.2.Ok pr q.1) ok__law_list (all_cons (Q := fun q : Nat × Df => q.2.Ok pr q.1) ok__law_row (all_cons (Q := fun q : Nat × Df => q.2.Ok pr q.1) ok__law_fit (all_cons (Q := fun q : Nat × Df => q.2.Ok pr q.1) ok__law_offer (all_cons (Q := fun q : Nat × Df => q.2.Ok pr q.1) ok__law_tab (all_cons (Q := fun q : Nat × Df => q.2.Ok pr q.1) ok__law_step (all_cons (Q := fun q : Nat × Df => q.2.Ok pr q.1) ok__law_start_state (all_cons (Q := fun q : Nat × Df => q.2.Ok pr q.1) ok__law_states (all_cons (Q := fun q : Nat × Df => q.2.Ok pr q.1) ok__law_view (all_cons (Q := fun q : Nat × Df => q.2.Ok pr q.1) ok__law_views_109 (all_cons (Q := fun q : Nat × Df => q.2.Ok pr q.1) ok__law_groups (all_cons (Q := fun q : Nat × Df => q.2.Ok pr q.1) ok__law_clean (all_cons (Q := fun q : Nat × Df => q.2.Ok pr q.1) ok_law_108 (all_nil (Q := fun q : Nat × Df => q.2.Ok pr q.1))))))))))))))))))))))))))))))))))))))))))))))))))))))))))
end FO

set_option Elab.async false
set_option linter.all false
set_option maxRecDepth 100000
set_option maxHeartbeats 0
namespace FO
open PySem PySem.Spec PyProof.Rows L2
def loose : List Str := (["is_int", "check_number", "check_sight", "is_key", "is_row", "check_row", "is_letters", "is_text", "is_list", "check_words", "begun_with", "fitting", "common", "offer_of", "press_tab", "press_end", "press_back", "step", "view_of", "is_one_of", "is_way", "check_way", "check_family", "states_of", "shown", "views_of", "is_view", "is_view_row", "is_record", "bar_of"] : List Str) ++ (["first_bar", "made", "bars", "remains", "groups_by", "check_all", "groups", "_law_start", "_law_draw", "_law_pick", "_law_true", "_law_way", "_law_texts", "_law_list", "_law_row", "_law_fit", "_law_offer", "_law_tab", "_law_step", "_law_start_state", "_law_states", "_law_view", "_law_views", "_law_groups", "_law_clean", "FieldError", "BadWay", "BadWords", "BadKeys", "BadNumber"] : List Str) ++ (["BadViews", "KEYS", "MOST_ROW", "MOST_TEXT", "CHOICES", "ACCEPTS", "AGAINS", "BACKS", "MOST_VIEWS"] : List Str)
abbrev R : PySem.W.OpenRow := PySem.W.OpenLaw.row PySem.Challenge.rw_fieldoffers_k03_whole_records
abbrev hk : PySem.W.Hook := pr.hook 4
def ob (s : PySem.W.SharedT) : AlC := pr.obsG 4 (HandSHeadRun.getT s)
theorem ob_eq (s : PySem.W.SharedT) : ob s = hk.obs s.abs := Pr.obsG_eq (HandSHeadRun.getT_eq s)
theorem run (w : World) : HandSHeadRun.RunEq R (PySem.W.view R.prog [79]) hk ob 4000 loose w := by
  intro os
  kernel_rfl
end FO

set_option Elab.async false
set_option linter.all false
set_option maxRecDepth 10000
set_option maxHeartbeats 1000000
namespace FO
open PySem L2
/-! ### steps of the evaluator -/
section
variable {P : Pg} {ρ : Rho} {S : Sto} {fu : Nat}
@[simp] theorem bind_ok {α β : Type} (a : α) (S : Sto) (f : α → Sto → Res β) : (Res.ok a S).bind f = f a S := rfl
@[simp] theorem lift_some {α : Type} (a : α) (S : Sto) : Res.lift S (some a) = .ok a S := rfl
@[simp] theorem of_ok {α : Type} (ρ : Rho) (a : α) (S : Sto) (k : α → Sto → Fl) : Fl.of ρ (.ok a S) k = k a S := rfl
@[simp] theorem then_next (ρ : Rho) (S : Sto) (k : Rho → Sto → Fl) : (Fl.next ρ S).then k = k ρ S := rfl
@[simp] theorem then_ret (w : W) (S : Sto) (k : Rho → Sto → Fl) : (Fl.ret w S).then k = .ret w S := rfl
@[simp] theorem truth_ok (b : Bool) (S : Sto) (k : Bool → Sto → Res W) : truth (.ok (.d (.bool b)) S) k = k b S := rfl
@[simp] theorem noex_ok {α : Type} (a : α) (S : Sto) : (Res.ok a S).noex = .ok a S := rfl
@[simp] theorem data_ok (x : PyData) (S : Sto) (f : PyData → Option PyData) : (Res.ok (.d x) S).data f = Res.lift S ((f x).map .d) := rfl
@[simp] theorem data_ref (n : Nat) (S : Sto) (f : PyData → Option PyData) : (Res.ok (.ref n) S).data f = Res.lift S (((vw S (.ref n)).bind f).map .d) := rfl
@[simp] theorem vw_ref (S : Sto) (n : Nat) : vw S (.ref n) = (match S[n]? with
    | some (.lst xs) => some (.list xs)
    | some (.dct kvs) => some (.dict (kvs.map fun p => (p.1, .none)))
    | some (.lck kvs) => some (.dict (kvs.map fun p => (p.1, .none)))
    | _ => none) := rfl
@[simp] theorem thaw_d (S : Sto) (x : PyData) : thaw S (.d x) = some (x, S) := rfl
@[simp] theorem vw_d (S : Sto) (x : PyData) : vw S (.d x) = some x := rfl
@[simp] theorem ev_c (x : PyData) : ev P (.c x) ρ S = .ok (.d x) S := by simp only [ev] <;> rfl
@[simp] theorem ev_v (i : Nat) : ev P (.v i) ρ S = (match ρ[i]? with
    | some (.val w) => .ok w S
    | _ => .bad) := by simp only [ev] <;> rfl
@[simp] theorem ev_g (i : Nat) : ev P (.g i) ρ S = Res.lift S ((P.gc i).map .d) := by simp only [ev] <;> rfl
@[simp] theorem ev_tup (es : Es) : ev P (.tup es) ρ S = (evs P es ρ S).bind fun ws S1 => mkTup ws S1 := by simp only [ev] <;> rfl
@[simp] theorem ev_lst (es : Es) : ev P (.lst es) ρ S = (evs P es ρ S).bind fun ws S1 => mkLst ws S1 := by simp only [ev] <;> rfl
@[simp] theorem mkTup_eq (ws : List W) : mkTup ws S = if Nat.ble ws.length lim then (match allD ws with
  | some ds => .ok (.d (.tuple ds)) S
  | none => .ok (.ref S.length) (S ++ [.tupW ws])) else .bad := rfl
@[simp] theorem mkLst_eq (ws : List W) : mkLst ws S = if Nat.ble ws.length lim then (match allD ws with
  | some ds => .ok (.d (.list ds)) S
  | none => .ok (.ref S.length) (S ++ [.lstW ws])) else .bad := rfl
@[simp] theorem cmpW_dd (o : CmpO) (x y : PyData) : cmpW o S (.d x) (.d y) = cmpD o x y := by cases o <;> rfl
@[simp] theorem ixW_dd (x y : PyData) : ixW S (.d x) (.d y) = Res.lift S ((ixD x y).map .d) := rfl
@[simp] theorem ixW_ref (n : Nat) (i : Int) : ixW S (.ref n) (.d (.int i)) = (match S[n]? with
    | some (.lst xs) => Res.lift S ((L2.atI xs i).map .d)
    | some (.lstW xs) => Res.lift S (L2.atI xs i)
    | some (.tupW xs) => Res.lift S (L2.atI xs i)
    | some (.dct kvs) => if kOk kvs (.int i) then Res.lift S (dget kvs (.int i)) else .bad
    | some (.lck kvs) => if kOk kvs (.int i) then Res.lift S (dget kvs (.int i)) else .bad
    | _ => .bad) := rfl
@[simp] theorem ev_bin (o : BinO) (a b : E) : ev P (.bin o a b) ρ S = (argm (ev P a ρ S) a ρ S).bind fun w S1 => (argm (ev P b ρ S1) b ρ S1).bind fun u S2 =>
      Res.lift S2 ((((vw S2 w).bind fun x => (vw S2 u).bind fun y => binD o x y)).map .d) := by simp only [ev] <;> rfl
@[simp] theorem ev_neg (a : E) : ev P (.neg a) ρ S = (ev P a ρ S).bind fun w S1 => match w with
    | .d (.int i) => .ok (.d (.int (-i))) S1
    | _ => .bad := by simp only [ev] <;> rfl
@[simp] theorem ev_not (a : E) : ev P (.not a) ρ S = truth (ev P a ρ S) fun b S1 => .ok (.d (.bool (!b))) S1 := by simp only [ev] <;> rfl
@[simp] theorem ev_and (a b : E) : ev P (.and a b) ρ S = truth (ev P a ρ S) fun k S1 => if k then truth (ev P b ρ S1) fun l S2 => .ok (.d (.bool l)) S2 else .ok (.d (.bool false)) S1 := by simp only [ev] <;> rfl
@[simp] theorem ev_or (a b : E) : ev P (.or a b) ρ S = truth (ev P a ρ S) fun k S1 => if k then .ok (.d (.bool true)) S1 else truth (ev P b ρ S1) fun l S2 => .ok (.d (.bool l)) S2 := by simp only [ev] <;> rfl
@[simp] theorem ev_cmp (o : CmpO) (a b : E) : ev P (.cmp o a b) ρ S = (argm (ev P a ρ S) a ρ S).bind fun w S1 => (argm (ev P b ρ S1) b ρ S1).bind fun u S2 =>
      Res.lift S2 ((cmpW o S2 w u).map .d) := by simp only [ev] <;> rfl
@[simp] theorem ev_chain (o p : CmpO) (a b c : E) : ev P (.chain o p a b c) ρ S = (argm (ev P a ρ S) a ρ S).bind fun w S1 => (argm (ev P b ρ S1) b ρ S1).bind fun u S2 =>
      truth (Res.lift S2 ((((vw S2 w).bind fun x => (vw S2 u).bind fun y => cmpD o x y)).map .d)) fun k S3 =>
        if k then (argm (ev P c ρ S3) c ρ S3).bind fun z S4 => Res.lift S4 ((((vw S4 u).bind fun x => (vw S4 z).bind fun y => cmpD p x y)).map .d)
        else .ok (.d (.bool false)) S3 := by simp only [ev] <;> rfl
@[simp] theorem ev_ife (t a b : E) : ev P (.ife t a b) ρ S = truth (ev P t ρ S) fun k S1 => if k then ev P a ρ S1 else ev P b ρ S1 := by simp only [ev] <;> rfl
@[simp] theorem ev_ix (a b : E) : ev P (.ix a b) ρ S = (argm (ev P a ρ S) a ρ S).bind fun w S1 => (ev P b ρ S1).bind fun u S2 => ixW S2 w u := by simp only [ev] <;> rfl
@[simp] theorem ev_sl (a lo hi : E) : ev P (.sl a lo hi) ρ S = (argm (ev P a ρ S) a ρ S).bind fun w S1 => (ev P lo ρ S1).bind fun l S2 => (Res.lift S2 (bndW lo l)).bind fun lo' S3 =>
      (ev P hi ρ S3).bind fun h S4 => (Res.lift S4 (bndW hi h)).bind fun hi' S5 => Res.lift S5 (((vw S5 w).bind fun x => slD x lo' hi').map .d) := by simp only [ev] <;> rfl
@[simp] theorem ev_call (f : Nat) (es : Es) : ev P (.call f es) ρ S = (evs P es ρ S).bind fun ws S1 => P.fn f ws S1 := by simp only [ev] <;> rfl
@[simp] theorem ev_bi (b : Bi) (a : E) : ev P (.bi b a) ρ S = (argm (ev P a ρ S) a ρ S).data (biD b) := by simp only [ev] <;> rfl
@[simp] theorem ev_bm (m : Bm) (o a : E) : ev P (.bm m o a) ρ S = (argm (ev P o ρ S) o ρ S).bind fun w S1 => (Res.lift S1 (bmOk m (vw S1 w))).bind fun _ S1' => (argm (ev P a ρ S1') a ρ S1').bind fun u S2 =>
      Res.lift S2 ((((vw S2 w).bind fun x => (vw S2 u).bind fun y => bmD m x y)).map .d) := by simp only [ev] <;> rfl
@[simp] theorem ev_isi (a : E) (t : Ty) : ev P (.isi a t) ρ S = (argm (ev P a ρ S) a ρ S).data fun x => (tyD x t).map .bool := by simp only [ev] <;> rfl
@[simp] theorem evs_nil : evs P .nil ρ S = .ok [] S := by simp only [evs]
@[simp] theorem evs_cons (e : E) (es : Es) : evs P (.cons e es) ρ S = (ev P e ρ S).bind fun w S1 => (evs P es ρ S1).bind fun ws S2 => .ok (w :: ws) S2 := by simp only [evs]
@[simp] theorem argm_v (r : Res W) (i : Nat) : argm r (.v i) ρ S = (match ρ[i]? with
    | some (.own xs) => .ok (.d (.list xs)) S
    | _ => r) := rfl
@[simp] theorem argm_c (r : Res W) (x : PyData) : argm r (.c x) ρ S = r := rfl
@[simp] theorem argm_g (r : Res W) (i : Nat) : argm r (.g i) ρ S = r := rfl
@[simp] theorem argm_tup (r : Res W) (es : Es) : argm r (.tup es) ρ S = r := rfl
@[simp] theorem argm_lst (r : Res W) (es : Es) : argm r (.lst es) ρ S = r := rfl
@[simp] theorem argm_bin (r : Res W) (o : BinO) (a b : E) : argm r (.bin o a b) ρ S = r := rfl
@[simp] theorem argm_neg (r : Res W) (a : E) : argm r (.neg a) ρ S = r := rfl
@[simp] theorem argm_ix (r : Res W) (a b : E) : argm r (.ix a b) ρ S = r := rfl
@[simp] theorem argm_sl (r : Res W) (a b c : E) : argm r (.sl a b c) ρ S = r := rfl
@[simp] theorem argm_call (r : Res W) (f : Nat) (es : Es) : argm r (.call f es) ρ S = r := rfl
@[simp] theorem argm_bi (r : Res W) (b : Bi) (a : E) : argm r (.bi b a) ρ S = r := rfl
@[simp] theorem argm_bm (r : Res W) (m : Bm) (o a : E) : argm r (.bm m o a) ρ S = r := rfl
@[simp] theorem argm_comp (r : Res W) (tg : Tg) (it : FO.It) (t e : E) : argm r (.comp tg it t e) ρ S = r := rfl
@[simp] theorem argm_ife (r : Res W) (a b c : E) : argm r (.ife a b c) ρ S = r := rfl
@[simp] theorem argm_cmp (r : Res W) (o : CmpO) (a b : E) : argm r (.cmp o a b) ρ S = r := rfl
@[simp] theorem evi_e (a : E) : evi P (.e a) ρ S = (argm (ev P a ρ S) a ρ S).bind fun w S1 => (match w with
    | .d x => Res.lift S1 (itemsD x)
    | .ref n => (match S1[n]? with
      | some (.dct kvs) => .ok (kvs.map (·.1)) (S1.set n (.lck kvs))
      | some (.lck kvs) => .ok (kvs.map (·.1)) S1
      | _ => .bad)
    | _ => .bad) := by simp only [evi] <;> rfl
@[simp] theorem evi_rng (a b : E) : evi P (.rng a b) ρ S = (ev P a ρ S).bind fun w S1 => (ev P b ρ S1).bind fun u S2 => (match w, u with
    | .d x, .d y => rngR S2 x y
    | _, _ => .bad) := by simp only [evi] <;> rfl
@[simp] theorem evi_enum (a : E) : evi P (.enum a) ρ S = (argm (ev P a ρ S) a ρ S).bind fun w S1 => (match w with
    | .d x => Res.lift S1 ((itemsE x).map (enumD 0))
    | _ => .bad) := by simp only [evi] <;> rfl
@[simp] theorem exSs_nil : exSs P fu .nil ρ S = .next ρ S := by simp only [exSs]
theorem exSs_cons (s : Sm) (r : Sms) : exSs P fu (.cons s r) ρ S = (exS P fu s ρ S).then fun ρ' S' => exSs P fu r ρ' S' := by simp only [exSs]
@[simp] theorem exS_asg (tg : Tg) (e : E) : exS P fu (.asg tg e) ρ S = Fl.of (frzE ρ e) (ev P e (frzE ρ e) S) fun w S1 => (match asgW tg w (frzE ρ e) with
    | some ρ' => .next ρ' S1
    | none => .bad) := by simp only [exS] <;> rfl
@[simp] theorem exS_own (i : Nat) (e : E) : exS P fu (.own i e) ρ S = Fl.of ρ (ev P e ρ S) fun w S1 => (match w with
    | .d (.list xs) => if i < ρ.length then .next (ρ.set i (.own xs)) S1 else .bad
    | _ => .bad) := by simp only [exS] <;> rfl
@[simp] theorem exS_expr (e : E) : exS P fu (.expr e) ρ S = Fl.of ρ (ev P e ρ S) fun _ S1 => .next ρ S1 := by simp only [exS] <;> rfl
@[simp] theorem exS_ret (e : E) : exS P fu (.ret e) ρ S = Fl.of (frzE ρ e) (ev P e (frzE ρ e) S) fun w S1 => .ret w S1 := by simp only [exS] <;> rfl
@[simp] theorem exS_iff (c : E) (a b : Sms) : exS P fu (.iff c a b) ρ S = Fl.of ρ (ev P c ρ S) fun w S1 => (match w with
    | .d (.bool true) => exSs P fu a ρ S1
    | .d (.bool false) => exSs P fu b ρ S1
    | _ => .bad) := by simp only [exS] <;> rfl
@[simp] theorem exS_par (is : List (Nat × Bool)) (es : Es) : exS P fu (.par is es) ρ S = Fl.of ρ (evp P (is.map (·.2)) es ρ S) fun ss S1 => (match setAll (is.map (·.1)) ss ρ with
    | some ρ' => .next ρ' S1
    | none => .bad) := by simp only [exS] <;> rfl
@[simp] theorem exS_frz (i : Nat) (s : Sm) : exS P fu (.frz i s) ρ S = (match ρ[i]? with
    | some (.val (.ref n)) => (match thaw S (.ref n) with
      | some (x, S1) => exS P fu s (ρ.set i (.val (.d x))) S1
      | none => .bad)
    | _ => exS P fu s (frzAt ρ i) S) := by simp only [exS] <;> rfl
/-- one turn of a loop -/
def loopB (P : Pg) (fu : Nat) (tg : Tg) (b : Sms) (x : PyData) (ρ' : Rho) (S' : Sto) : Fl := match asgT tg x ρ' with
  | some ρ2 => exSs P fu b ρ2 S'
  | none => .bad
@[simp] theorem exS_for (tg : Tg) (it : FO.It) (b : Sms) : exS P fu (.for_ tg it b) ρ S = Fl.of (frzI ρ it) (evi P it (frzI ρ it) S) fun ds S1 => forL (loopB P fu tg b) ds (frzI ρ it) S1 := by simp only [exS] <;> rfl
@[simp] theorem exS_aug (i : Nat) (o : BinO) (e : E) : exS P fu (.aug i o e) ρ S = (match ρ[i]? with
    | some (.own xs) => Fl.of ρ (ev P e ρ S) fun w S1 => (match o, w with
      | .add, .d (.list ys) => if Nat.ble (xs.length + ys.length) lim then .next (ρ.set i (.own (xs ++ ys))) S1 else .bad
      | _, _ => .bad)
    | some (.val (.d x)) => if isSc x then Fl.of ρ (ev P e ρ S) fun w S1 => (match w with
        | .d y => if isSc y then (match binD o x y with
          | some z => .next (ρ.set i (.val (.d z))) S1
          | none => .bad) else .bad
        | _ => .bad) else .bad
    | some (.val (.ref n)) => Fl.of ρ (ev P e ρ S) fun w S1 => (match o, S1[n]?, w with
      | .add, some (.lst xs), .d (.list ys) => if Nat.ble (xs.length + ys.length) lim then .next ρ (S1.set n (.lst (xs ++ ys))) else .bad
      | _, _, _ => .bad)
    | _ => .bad) := by simp only [exS] <;> rfl
@[simp] theorem exS_app (i : Nat) (e : E) : exS P fu (.app i e) ρ S = (match (frzE ρ e)[i]? with
    | some (.own xs) => Fl.of (frzE ρ e) (ev P e (frzE ρ e) S) fun w S1 => (match w with
      | .d x => if Nat.blt xs.length lim then .next ((frzE ρ e).set i (.own (xs ++ [x]))) S1 else .bad
      | _ => .bad)
    | _ => .bad) := by simp only [exS] <;> rfl
@[simp] theorem exS_setix (o i e : E) : exS P fu (.setix o i e) ρ S = Fl.of ρ (ev P e ρ S) fun w S1 => Fl.of ρ (ev P o ρ S1) fun ow S2 => Fl.of ρ (ev P i ρ S2) fun iw S3 => (match ow, iw with
    | .ref n, .d (.int k) => (match S3[n]?, w with
      | some (.lst xs), .d x => (match L2.ixN xs.length k with
        | some j => .next ρ (S3.set n (.lst (xs.set j x)))
        | none => .bad)
      | some (.lstW xs), w => (match L2.ixN xs.length k with
        | some j => .next ρ (S3.set n (.lstW (xs.set j w)))
        | none => .bad)
      | some (.dct kvs), w => if kOk kvs (.int k) && Nat.blt kvs.length lim then .next ρ (S3.set n (.dct (dput kvs (.int k) w))) else .bad
      | _, _ => .bad)
    | .ref n, .d x => (match S3[n]? with
      | some (.dct kvs) => if kOk kvs x && Nat.blt kvs.length lim then .next ρ (S3.set n (.dct (dput kvs x w))) else .bad
      | _ => .bad)
    | _, _ => .bad) := by simp only [exS] <;> rfl
@[simp] theorem exS_raise (c : Nat) : exS P fu (.raise c) ρ S = .ex c ρ S := by simp only [exS] <;> rfl
@[simp] theorem evp_nil : evp P [] .nil ρ S = .ok [] S := rfl
@[simp] theorem evp_cons (b : Bool) (bs : List Bool) (e : E) (es : Es) : evp P (b :: bs) (.cons e es) ρ S = (ev P e ρ S).bind fun w S1 => (Res.lift S1 (ownS b w)).bind fun s S2 => (evp P bs es ρ S2).bind fun ss S3 => .ok (s :: ss) S3 := rfl
@[simp] theorem own_f (w : W) : ownS false w = some (.val w) := rfl
@[simp] theorem own_t (xs : List PyData) : ownS true (.d (.list xs)) = some (.own xs) := rfl
@[simp] theorem setAll_nil : setAll [] [] ρ = some ρ := rfl
@[simp] theorem setAll_cons (i : Nat) (is : List Nat) (s : Sl) (ss : List Sl) : setAll (i :: is) (s :: ss) ρ = if i < ρ.length then setAll is ss (ρ.set i s) else none := rfl
@[simp] theorem asgW_nm (i : Nat) (w : W) : asgW (.nm i) w ρ = if i < ρ.length then some (ρ.set i (.val w)) else none := rfl
@[simp] theorem asgW_tp (ts : Tgs) (x : PyData) : asgW (.tp ts) (.d x) ρ = asgT (.tp ts) x ρ := rfl
@[simp] theorem asgT_nm (i : Nat) (x : PyData) : asgT (.nm i) x ρ = if i < ρ.length then some (ρ.set i (.val (.d x))) else none := by simp only [asgT]
@[simp] theorem asgT_tp (ts : Tgs) (xs : List PyData) : asgT (.tp ts) (.tuple xs) ρ = asgTs ts xs ρ := by simp only [asgT]
@[simp] theorem asgTs_nil : asgTs .nil [] ρ = some ρ := by simp only [asgTs]
@[simp] theorem asgTs_cons (t : Tg) (ts : Tgs) (x : PyData) (xs : List PyData) : asgTs (.cons t ts) (x :: xs) ρ = (asgT t x ρ).bind fun ρ' => asgTs ts xs ρ' := by simp only [asgTs]
@[simp] theorem own_nm (i : Nat) : tgOwn (.nm i) = [i] := by simp only [tgOwn]
@[simp] theorem own_tp (ts : Tgs) : tgOwn (.tp ts) = tgsOwn ts := by simp only [tgOwn]
@[simp] theorem owns_nil : tgsOwn .nil = [] := by simp only [tgsOwn]
@[simp] theorem owns_cons (t : Tg) (ts : Tgs) : tgsOwn (.cons t ts) = tgOwn t ++ tgsOwn ts := by simp only [tgsOwn]
@[simp] theorem wipeR_nil : wipeR [] ρ = ρ := rfl
@[simp] theorem wipeR_cons (v : Nat) (vs : List Nat) : wipeR (v :: vs) ρ = (wipeR vs ρ).set v .un := rfl
@[simp] theorem frzE_v (i : Nat) : frzE ρ (.v i) = frzAt ρ i := rfl
@[simp] theorem frzE_c (x : PyData) : frzE ρ (.c x) = ρ := rfl
@[simp] theorem frzE_tup (es : Es) : frzE ρ (.tup es) = ρ := rfl
@[simp] theorem frzE_lst (es : Es) : frzE ρ (.lst es) = ρ := rfl
@[simp] theorem frzE_bin (o : BinO) (a b : E) : frzE ρ (.bin o a b) = ρ := rfl
@[simp] theorem frzE_and (a b : E) : frzE ρ (.and a b) = ρ := rfl
@[simp] theorem frzE_or (a b : E) : frzE ρ (.or a b) = ρ := rfl
@[simp] theorem frzE_not (a : E) : frzE ρ (.not a) = ρ := rfl
@[simp] theorem frzE_cmp (o : CmpO) (a b : E) : frzE ρ (.cmp o a b) = ρ := rfl
@[simp] theorem frzE_ife (a b c : E) : frzE ρ (.ife a b c) = ρ := rfl
@[simp] theorem frzE_ix (a b : E) : frzE ρ (.ix a b) = ρ := rfl
@[simp] theorem frzE_sl (a b c : E) : frzE ρ (.sl a b c) = ρ := rfl
@[simp] theorem frzE_call (f : Nat) (es : Es) : frzE ρ (.call f es) = ρ := rfl
@[simp] theorem frzE_bi (b : Bi) (a : E) : frzE ρ (.bi b a) = ρ := rfl
@[simp] theorem frzE_bm (m : Bm) (o a : E) : frzE ρ (.bm m o a) = ρ := rfl
@[simp] theorem frzE_comp (tg : Tg) (it : FO.It) (t e : E) : frzE ρ (.comp tg it t e) = ρ := rfl
@[simp] theorem frzE_newW (es : Es) : frzE ρ (.newW es) = ρ := rfl
@[simp] theorem frzI_e (a : E) : frzI ρ (.e a) = frzE ρ a := rfl
@[simp] theorem frzI_enum (a : E) : frzI ρ (.enum a) = frzE ρ a := rfl
@[simp] theorem frzI_rng (a b : E) : frzI ρ (.rng a b) = ρ := rfl
@[simp] theorem allD_nil : allD [] = some [] := rfl
@[simp] theorem allD_cons (x : PyData) (r : List W) : allD (.d x :: r) = (allD r).map (x :: ·) := rfl
@[simp] theorem frzAt_eq (i : Nat) : frzAt ρ i = (match ρ[i]? with
  | some (.own xs) => ρ.set i (.val (.d (.list xs)))
  | _ => ρ) := rfl
end
theorem iff_b {c : E} {a b : Sms} {P : Pg} {ρ : Rho} {S S1 : Sto} {fu : Nat} {t : Bool} (h : ev P c ρ S = .ok (.d (.bool t)) S1) : exS P fu (.iff c a b) ρ S = if t then exSs P fu a ρ S1 else exSs P fu b ρ S1 := by
  rw [exS_iff, h, of_ok]
  cases t <;> rfl
theorem call_ret {P : Pg} {fu : Nat} {f : Fn} {ws : List W} {S S' : Sto} {w : W} (hl : ws.length = f.np) (h : exSs P fu f.body (startR f ws) S = .ret w S') : callB P fu f ws S = .ok w S' := by
  unfold callB
  rw [if_pos hl, h]
theorem call_next {P : Pg} {fu : Nat} {f : Fn} {ws : List W} {S S' : Sto} {ρ : Rho} (hl : ws.length = f.np) (h : exSs P fu f.body (startR f ws) S = .next ρ S') : callB P fu f ws S = .ok (.d .none) S' := by
  unfold callB
  rw [if_pos hl, h]
/-! ### ints, bounds -/
@[simp] theorem lim_eq : lim = 1000000 := rfl
theorem lim_ok {n : Nat} (h : n ≤ 1000000) : Nat.ble n lim = true := Nat.ble_eq_true_of_le h
@[simp] theorem l_len (xs : List PyData) : biD .len (.list xs) = some (.int xs.length) := rfl
@[simp] theorem t_len (xs : List PyData) : biD .len (.tuple xs) = some (.int xs.length) := rfl
@[simp] theorem l_tup (xs : List PyData) : biD .tuple (.list xs) = some (.tuple xs) := rfl
@[simp] theorem t_lst (xs : List PyData) : biD .list (.tuple xs) = some (.list xs) := rfl
@[simp] theorem l_lst (xs : List PyData) : biD .list (.list xs) = some (.list xs) := rfl
@[simp] theorem l_items (xs : List PyData) : itemsD (.list xs) = some xs := rfl
@[simp] theorem t_items (xs : List PyData) : itemsD (.tuple xs) = some xs := rfl
@[simp] theorem i_gt (i j : Int) : cmpD .gt (.int i) (.int j) = some (.bool (decide (j < i))) := rfl
@[simp] theorem i_lt (i j : Int) : cmpD .lt (.int i) (.int j) = some (.bool (decide (i < j))) := rfl
@[simp] theorem i_le (i j : Int) : cmpD .le (.int i) (.int j) = some (.bool (decide (i ≤ j))) := rfl
@[simp] theorem i_ge (i j : Int) : cmpD .ge (.int i) (.int j) = some (.bool (decide (j ≤ i))) := rfl
@[simp] theorem i_eq (i j : Int) : cmpD .eq (.int i) (.int j) = some (.bool (decide (i = j))) := by
  simp only [cmpD, eqD, scP, isSc, PyData.eqv]
  by_cases h : i = j <;> simp [h]
@[simp] theorem i_ne (i j : Int) : cmpD .ne (.int i) (.int j) = some (.bool (!decide (i = j))) := by
  simp only [cmpD, eqD, scP, isSc, PyData.eqv]
  by_cases h : i = j <;> simp [h]
@[simp] theorem i_add (i j : Int) : binD .add (.int i) (.int j) = some (.int (i + j)) := rfl
@[simp] theorem i_sub (i j : Int) : binD .sub (.int i) (.int j) = some (.int (i - j)) := rfl
@[simp] theorem bnd_int (e : E) (i : Int) : bndW e (.d (.int i)) = some (some i) := by
  cases e with
  | c y => cases y <;> rfl
  | _ => rfl
@[simp] theorem bnd_non : bndW (.c .none) (.d .none) = some none := rfl
theorem cut_to {α : Type} (a : List α) (n : Nat) : cutD a none (some (n : Int)) = a.take n := by
  unfold cutD
  rw [HT.sIx_nat, HT.sIx_none]
  simp [List.take_eq_take_iff]
theorem cut_from {α : Type} (a : List α) (n : Nat) : cutD a (some (n : Int)) none = a.drop n := by
  unfold cutD
  rw [HT.sIx_nat, HT.sIx_none]
  by_cases h : n ≤ a.length
  · rw [Nat.min_eq_left h]
    rw [List.take_of_length_le (by rw [List.length_drop]; omega)]
  · rw [Nat.min_eq_right (by omega), List.drop_length]
    rw [List.drop_eq_nil_of_le (by omega)]
    simp
theorem cut_mid {α : Type} (a : List α) (m n : Nat) : cutD a (some (m : Int)) (some (n : Int)) = (a.drop m).take (n - m) := by
  unfold cutD
  rw [HT.sIx_nat, HT.sIx_nat]
  by_cases h : m ≤ a.length
  · rw [Nat.min_eq_left h]
    by_cases h2 : n ≤ a.length
    · rw [Nat.min_eq_left h2]
    · rw [Nat.min_eq_right (by omega), List.take_of_length_le (by rw [List.length_drop]; omega), List.take_of_length_le (by rw [List.length_drop]; omega)]
  · rw [Nat.min_eq_right (show a.length ≤ m by omega), List.drop_length, List.drop_eq_nil_of_le (show a.length ≤ m by omega)]
    simp
theorem cut_last {α : Type} (a : List α) : cutD a none (some (-1)) = a.dropLast := by
  unfold cutD
  rw [HT.sIx_none]
  have : HT.sIx a.length a.length (some (-1)) = a.length - 1 := by
    show (if (-1 : Int) < 0 then ((-1 : Int) + (a.length : Int)).toNat else min (-1 : Int).toNat a.length) = a.length - 1
    rw [if_pos (by omega)]
    omega
  rw [this]
  simp [List.dropLast_eq_take]
theorem at_nat {α : Type} (a : List α) (n : Nat) : L2.atI a (n : Int) = a[n]? := by
  unfold L2.atI L2.ixN
  rw [if_pos (by omega)]
  by_cases h : n < a.length
  · rw [if_pos (by omega)]; simp
  · rw [if_neg (by omega), List.getElem?_eq_none (by omega)]; rfl
theorem at_last {α : Type} (a : List α) (h : a ≠ []) : L2.atI a (-1) = a.getLast? := by
  unfold L2.atI L2.ixN
  have : 0 < a.length := List.length_pos_iff.mpr h
  rw [if_neg (by omega), if_pos (by omega)]
  have e : ((-1 : Int) + (a.length : Int)).toNat = a.length - 1 := by omega
  rw [Option.bind_some, e, List.getLast?_eq_getElem?]
theorem at_pos {α : Type} (a : List α) (i : Int) (h : 0 ≤ i) : L2.atI a i = a[i.toNat]? := by
  obtain ⟨n, rfl⟩ := Int.eq_ofNat_of_zero_le h
  exact at_nat a n
@[simp] theorem ix_t (xs : List PyData) (i : Int) (h : 0 ≤ i) : ixD (.tuple xs) (.int i) = xs[i.toNat]? := at_pos xs i h
@[simp] theorem ix_l (xs : List PyData) (i : Int) (h : 0 ≤ i) : ixD (.list xs) (.int i) = xs[i.toNat]? := at_pos xs i h
/-! ### comprehensions, loops -/
theorem compL_map {α : Type} {g : PyData → Sto → Res (Option PyData)} {en : α → PyData} {f : α → Option PyData} {S : Sto} : ∀ {xs : List α}, (∀ x ∈ xs, g (en x) S = .ok (f x) S) → compL g (xs.map en) S = .ok (xs.filterMap f) S
  | [], _ => rfl
  | x :: r, h => by
    rw [List.map_cons, compL, h x List.mem_cons_self, bind_ok, compL_map fun y hy => h y (List.mem_cons_of_mem _ hy), bind_ok, List.filterMap_cons]
    cases f x <;> rfl
theorem comp_one {P : Pg} {tg : Tg} {it : FO.It} {test elt : E} {ρ : Rho} {S : Sto} : ev P (.comp tg it test elt) ρ S = (evi P it ρ S).bind fun ds S1 => if Nat.ble ds.length lim then (compL (oneR P tg test elt ρ) ds S1).bind fun ys S5 => .ok (.d (.list ys)) S5 else .bad := by
  simp only [ev]
  have key : ∀ {g h : PyData → Sto → Res (Option PyData)} (l : List PyData) (S : Sto), (∀ x S, g x S = h x S) → compL g l S = compL h l S := fun {g h} l S hg => by
    have : g = h := funext fun x => funext fun S => hg x S
    rw [this]
  cases evi P it ρ S with
  | bad => rfl
  | ex c S1 => rfl
  | ok ds S1 =>
    rw [bind_ok, bind_ok]
    rw [key (h := oneR P tg test elt ρ) ds S1 fun x S => ?_]
    unfold oneR
    cases asgT tg x (wipeR (tgOwn tg) ρ) with
    | none => rfl
    | some ρ' => first | rfl | (dsimp only; congr 2)
theorem comp_ev {P : Pg} {tg : Tg} {it : FO.It} {test elt : E} {ρ : Rho} {S : Sto} {α : Type} {xs : List α} {en : α → PyData} {f : α → Option PyData} (h1 : evi P it ρ S = .ok (xs.map en) S) (h2 : xs.length ≤ 1000000) (h3 : ∀ x ∈ xs, oneR P tg test elt ρ (en x) S = .ok (f x) S) :
    ev P (.comp tg it test elt) ρ S = .ok (.d (.list (xs.filterMap f))) S := by
  rw [comp_one, h1, bind_ok, List.length_map, if_pos (lim_ok h2), compL_map h3, bind_ok]
/-- .. that changes the store -/
theorem comp_st {P : Pg} {tg : Tg} {it : FO.It} {test elt : E} {ρ : Rho} {S S1 S2 : Sto} {ds ys : List PyData} (h1 : evi P it ρ S = .ok ds S1) (h2 : ds.length ≤ 1000000) (h3 : compL (oneR P tg test elt ρ) ds S1 = .ok ys S2) :
    ev P (.comp tg it test elt) ρ S = .ok (.d (.list ys)) S2 := by
  rw [comp_one, h1, bind_ok, if_pos (lim_ok h2), h3, bind_ok]
theorem fm_if {α β : Type} (p : α → Bool) (g : α → β) (xs : List α) : xs.filterMap (fun x => if p x then some (g x) else none) = (xs.filter p).map g := by
  induction xs with
  | nil => rfl
  | cons x r ih =>
    rw [List.filterMap_cons]
    cases h : p x <;> simp [h, ih]
/-- a comprehension that changes nothing -/
theorem comp_if {P : Pg} {tg : Tg} {it : FO.It} {test elt : E} {ρ : Rho} {S : Sto} {α : Type} (xs : List α) (en : α → PyData) (p : α → Bool) (g : α → PyData) (h1 : evi P it ρ S = .ok (xs.map en) S) (h2 : xs.length ≤ 1000000)
    (h3 : ∀ x ∈ xs, ∃ ρ', asgT tg (en x) (wipeR (tgOwn tg) ρ) = some ρ' ∧ ev P test ρ' S = .ok (.d (.bool (p x))) S ∧ (p x = true → ev P elt ρ' S = .ok (.d (g x)) S)) :
    ev P (.comp tg it test elt) ρ S = .ok (.d (.list ((xs.filter p).map g))) S := by
  rw [← fm_if, comp_ev h1 h2]
  intro x hx
  obtain ⟨ρ', e1, e2, e3⟩ := h3 x hx
  unfold oneR
  rw [e1]
  dsimp only
  rw [e2, bind_ok]
  cases hp : p x with
  | true =>
    dsimp only
    rw [e3 hp, bind_ok]; rfl
  | false => rfl
theorem comp_all {P : Pg} {tg : Tg} {it : FO.It} {elt : E} {ρ : Rho} {S : Sto} {α : Type} (xs : List α) (en : α → PyData) (g : α → PyData) (h1 : evi P it ρ S = .ok (xs.map en) S) (h2 : xs.length ≤ 1000000)
    (h3 : ∀ x ∈ xs, ∃ ρ', asgT tg (en x) (wipeR (tgOwn tg) ρ) = some ρ' ∧ ev P elt ρ' S = .ok (.d (g x)) S) :
    ev P (.comp tg it (.c (.bool true)) elt) ρ S = .ok (.d (.list (xs.map g))) S := by
  rw [comp_if xs en (fun _ => true) g h1 h2 fun x hx => ?_]
  · rw [List.filter_eq_self.mpr fun _ _ => rfl]
  · obtain ⟨ρ', e1, e2⟩ := h3 x hx
    exact ⟨ρ', e1, by simp, fun _ => e2⟩
/-- a loop that goes on -/
theorem forL_fold {α σ : Type} {body : PyData → Rho → Sto → Fl} {en : α → PyData} {R : σ → Rho} {st : σ → α → σ} {S : Sto} : ∀ (xs : List α) (a : σ), (∀ x ∈ xs, ∀ a, body (en x) (R a) S = .next (R (st a x)) S) → forL body (xs.map en) (R a) S = .next (R (xs.foldl st a)) S
  | [], _, _ => rfl
  | x :: r, a, h => by
    rw [List.map_cons, forL, h x List.mem_cons_self, then_next, forL_fold r _ fun y hy => h y (List.mem_cons_of_mem _ hy)]
    rfl
end FO

set_option Elab.async false
set_option linter.all false
set_option maxRecDepth 10000
set_option maxHeartbeats 1000000
namespace FO
open PySem L2
/-! ### texts of two letters -/
abbrev Txt := List Bool
def chr (b : Bool) : Nat := if b then 98 else 97
def st (l : Txt) : Str := ⟨(l.map chr).toArray⟩
abbrev tx (l : Txt) : PyData := .str (st l)
theorem chr_inj {a b : Bool} (h : chr a = chr b) : a = b := by cases a <;> cases b <;> first | rfl | (exact absurd h (by decide))
theorem st_inj {a b : Txt} (h : st a = st b) : a = b := by
  unfold st at h
  injection h with h
  have h : a.map chr = b.map chr := by simpa using h
  exact List.map_inj_right (fun _ _ => chr_inj) |>.mp h
theorem st_eq (a b : Txt) : (st a == st b) = decide (a = b) := by
  by_cases h : a = b
  · subst h; simp
  · rw [decide_eq_false h]
    exact beq_eq_false_iff_ne.mpr fun e => h (st_inj e)
@[simp] theorem st_len (a : Txt) : (st a).length = a.length := by simp [st, Str.length]
@[simp] theorem st_app (a b : Txt) : st a ++ st b = st (a ++ b) := by
  show Str.append _ _ = _
  simp [st, Str.append]
theorem st_cut (a : Txt) (lo hi : Option Int) : cutS (st a) lo hi = st (cutD a lo hi) := by
  unfold cutS cutD
  rw [st_len]
  simp [st, List.map_drop, List.map_take]
@[simp] theorem str_nil : (Str.ofString "") = st [] := by decide +kernel
@[simp] theorem str_a : (Str.ofString "a") = st [false] := by decide +kernel
@[simp] theorem str_b : (Str.ofString "b") = st [true] := by decide +kernel
@[simp] theorem str_ab : (Str.ofString "ab") = st [false, true] := by decide +kernel
theorem st_items (a : Txt) : strItems (st a) = a.map fun c => tx [c] := by
  simp [strItems, st]
theorem st_starts (a b : Txt) : Txt.startswith (st a) (st b) = b.isPrefixOf a := by
  unfold PySem.Txt.startswith
  rw [StrLaws.subAt_eq]
  have e1 : (st a).cps.toList = a.map chr := by simp [st]
  have e2 : (st b).cps.toList = b.map chr := by simp [st]
  rw [e1, e2, st_len, st_len, List.drop_zero, ← List.map_take]
  have e3 : ((a.take b.length).map chr == b.map chr) = decide (a.take b.length = b) := by
    by_cases h : a.take b.length = b
    · rw [decide_eq_true h, h]; simp
    · rw [decide_eq_false h]
      exact beq_eq_false_iff_ne.mpr fun e => h (List.map_inj_right (fun _ _ => chr_inj) |>.mp e)
  rw [e3, Bool.eq_iff_iff, List.isPrefixOf_iff_prefix]
  simp only [Bool.and_eq_true, decide_eq_true_eq]
  constructor
  · rintro ⟨_, h⟩
    exact h ▸ List.take_prefix _ _
  · rintro ⟨r, rfl⟩
    simp
/-! ### operations on them -/
@[simp] theorem d_len (a : Txt) (h : a.length ≤ 1000000) : biD .len (tx a) = some (.int a.length) := by simp [biD, h]
@[simp] theorem d_eq (a b : Txt) : cmpD .eq (tx a) (tx b) = some (.bool (decide (a = b))) := by
  simp only [cmpD, eqD, scP, isSc, PyData.eqv, st_eq]
  rfl
@[simp] theorem d_ne (a b : Txt) : cmpD .ne (tx a) (tx b) = some (.bool (!decide (a = b))) := by
  simp only [cmpD, eqD, scP, isSc, PyData.eqv, st_eq]
  rfl
@[simp] theorem d_add (a b : Txt) (h : a.length + b.length ≤ 1000000) : binD .add (tx a) (tx b) = some (tx (a ++ b)) := by simp [binD, h]
@[simp] theorem d_sl (a : Txt) (lo hi : Option Int) (h : a.length ≤ 1000000) : slD (tx a) lo hi = some (tx (cutD a lo hi)) := by simp [slD, h, st_cut]
@[simp] theorem d_starts (a b : Txt) : bmD .startswith (tx a) (tx b) = some (.bool (b.isPrefixOf a)) := by simp [bmD, st_starts]
theorem d_items (a : Txt) (h : a.length ≤ 1000000) : itemsD (tx a) = some (a.map fun c => tx [c]) := by simp [itemsD, h, st_items]
@[simp] theorem eqv_tx (a b : Txt) : PyData.eqv (tx a) (tx b) = decide (a = b) := by simp only [PyData.eqv, st_eq]
@[simp] theorem d_inab (c : Bool) : cmpD .in_ (tx [c]) (tx [false, true]) = some (.bool true) := by cases c <;> (simp only [cmpD]; exact congrArg (fun b => some (PyData.bool b)) (by decide +kernel))
/-! ### shapes -/
theorem strOk_st (a : Txt) : PyData.canLay0 (tx a) = true := by
  simp only [PyData.canLay0]
  unfold PyData.strOk st
  simp only [List.all_toArray, List.all_map]
  exact List.all_eq_true.mpr fun b _ => by cases b <;> decide
theorem canAll {l : List PyData} (h : ∀ x ∈ l, x.canLay0 = true) : PyData.canLayAll0 l = true := by
  induction l with
  | nil => simp [PyData.canLayAll0]
  | cons x r ih => simp [PyData.canLayAll0, h x List.mem_cons_self, ih fun y hy => h y (List.mem_cons_of_mem _ hy)]
theorem depAll {l : List PyData} {n : Nat} (h : ∀ x ∈ l, x.depth ≤ n) : PyData.depthAll l ≤ n := by
  induction l with
  | nil => simp [PyData.depthAll]
  | cons x r ih =>
    simp only [PyData.depthAll]
    exact Nat.max_le.mpr ⟨h x List.mem_cons_self, ih fun y hy => h y (List.mem_cons_of_mem _ hy)⟩
/-- what == takes: depth at most n -/
def Shp (n : Nat) (x : PyData) : Prop := x.canLay0 = true ∧ x.depth ≤ n
theorem Shp.ok {n : Nat} {x : PyData} (h : Shp n x) (hn : n ≤ 64) : SeqAt.shaped x = true := by
  unfold SeqAt.shaped
  rw [h.1, decide_eq_true (Nat.le_trans h.2 hn)]; rfl
theorem shp_tx (n : Nat) (a : Txt) : Shp n (tx a) := ⟨strOk_st a, by simp [PyData.depth]⟩
theorem shp_int (n : Nat) (i : Int) : Shp n (.int i) := ⟨by simp [PyData.canLay0], by simp [PyData.depth]⟩
theorem shp_non (n : Nat) : Shp n .none := ⟨by simp [PyData.canLay0], by simp [PyData.depth]⟩
theorem shp_bool (n : Nat) (b : Bool) : Shp n (.bool b) := ⟨by simp [PyData.canLay0], by simp [PyData.depth]⟩
theorem shp_lst {n : Nat} {l : List PyData} (h : ∀ x ∈ l, Shp n x) : Shp (n + 1) (.list l) := ⟨by simp only [PyData.canLay0]; exact canAll fun x hx => (h x hx).1, by simp only [PyData.depth]; exact Nat.succ_le_succ (depAll fun x hx => (h x hx).2)⟩
theorem shp_tup {n : Nat} {l : List PyData} (h : ∀ x ∈ l, Shp n x) : Shp (n + 1) (.tuple l) := ⟨by simp only [PyData.canLay0]; exact canAll fun x hx => (h x hx).1, by simp only [PyData.depth]; exact Nat.succ_le_succ (depAll fun x hx => (h x hx).2)⟩
theorem Shp.mono {m n : Nat} {x : PyData} (h : Shp m x) (hm : m ≤ n) : Shp n x := ⟨h.1, Nat.le_trans h.2 hm⟩
theorem d_eqv {n : Nat} {x y : PyData} (hx : Shp n x) (hy : Shp n y) (hn : n ≤ 64) : cmpD .eq x y = some (.bool (PyData.eqv x y)) := by
  simp [cmpD, eqD, hx.ok hn, hy.ok hn]
theorem d_nev {n : Nat} {x y : PyData} (hx : Shp n x) (hy : Shp n y) (hn : n ≤ 64) : cmpD .ne x y = some (.bool (!PyData.eqv x y)) := by
  simp [cmpD, eqD, hx.ok hn, hy.ok hn]
theorem d_same {n : Nat} {x : PyData} (hx : Shp n x) (hn : n ≤ 64) : cmpD .eq x x = some (.bool true) := by
  rw [d_eqv hx hx hn, SeqAt.eqv_refl x hx.1]
theorem d_other {n : Nat} {x : PyData} (hx : Shp n x) (hn : n ≤ 64) : cmpD .ne x x = some (.bool false) := by
  rw [d_nev hx hx hn, SeqAt.eqv_refl x hx.1]; rfl
theorem shp_txs (l : List Txt) : Shp 1 (.list (l.map tx)) := shp_lst fun x hx => by
  obtain ⟨a, _, rfl⟩ := List.mem_map.mp hx
  exact shp_tx 0 a
theorem eqv_nil {α : Type} (f : α → PyData) (l : List α) : PyData.eqv (.list (l.map f)) (.list []) = decide (l = []) := by
  cases l with
  | nil => simp [PyData.eqv, PyData.eqvAll]
  | cons x r => simp [PyData.eqv, PyData.eqvAll]
theorem d_isnil {α : Type} (f : α → PyData) (l : List α) (n : Nat) (h : ∀ x, Shp n (f x)) (hn : n + 1 ≤ 64) : cmpD .eq (.list (l.map f)) (.list []) = some (.bool (decide (l = []))) := by
  rw [d_eqv (n := n + 1) (shp_lst fun x hx => by obtain ⟨a, _, rfl⟩ := List.mem_map.mp hx; exact h a) (shp_lst fun x hx => by cases hx) hn, eqv_nil]
theorem any_tx (l : List Txt) (a : Txt) : ((l.map tx).any fun z => PyData.eqv z (tx a)) = decide (a ∈ l) := by
  rw [List.any_map]
  by_cases h : a ∈ l
  · rw [decide_eq_true h]
    exact List.any_eq_true.mpr ⟨a, h, by simp⟩
  · rw [decide_eq_false h, Bool.eq_false_iff]
    intro hh
    obtain ⟨b, hb, e⟩ := List.any_eq_true.mp hh
    have : b = a := by simpa using e
    exact h (this ▸ hb)
@[simp] theorem d_inL (a : Txt) (l : List Txt) : cmpD .in_ (tx a) (.list (l.map tx)) = some (.bool (decide (a ∈ l))) := by
  have h1 := (shp_tx 1 a).ok (by decide)
  have h2 := (shp_txs l).ok (by decide)
  simp only [cmpD, h1, h2, Bool.and_self, if_true, any_tx]
@[simp] theorem d_inT (a : Txt) (l : List Txt) : cmpD .in_ (tx a) (.tuple (l.map tx)) = some (.bool (decide (a ∈ l))) := by
  have h2 : (l.map tx).all isSc = true := by rw [List.all_map]; exact List.all_eq_true.mpr fun _ _ => rfl
  simp only [cmpD, isSc, h2, Bool.and_self, if_true, any_tx]
end FO

set_option Elab.async false
set_option linter.all false
set_option maxRecDepth 10000
set_option maxHeartbeats 1000000
namespace FO
open PySem L2
/-! ### ways, keys, states: plain -/
inductive Ch where
  | first | short | common
deriving DecidableEq
inductive Ac where
  | tab | blank | always
deriving DecidableEq
inductive Ag where
  | next | stay
deriving DecidableEq
inductive Bk where
  | offer | letter | both
deriving DecidableEq
inductive Key where
  | a | b | tab | blank | back | fin
deriving DecidableEq
def Ch.s : Ch → Str
  | .first => "first"
  | .short => "short"
  | .common => "common"
def Ac.s : Ac → Str
  | .tab => "tab"
  | .blank => "blank"
  | .always => "always"
def Ag.s : Ag → Str
  | .next => "next"
  | .stay => "stay"
def Bk.s : Bk → Str
  | .offer => "offer"
  | .letter => "letter"
  | .both => "both"
def Key.s : Key → Str
  | .a => "a"
  | .b => "b"
  | .tab => "tab"
  | .blank => "blank"
  | .back => "back"
  | .fin => "end"
structure Way where
  ch : Ch
  si : Bool
  ac : Ac
  ag : Ag
  bk : Bk
  le : Bool
deriving DecidableEq
def siI (b : Bool) : Int := if b then 2 else 1
def qi (b : Bool) : Int := if b then 1 else 0
def Way.e (w : Way) : PyData := .tuple [.str w.ch.s, .int (siI w.si), .str w.ac.s, .str w.ag.s, .str w.bk.s, .int (qi w.le)]
def Key.e (k : Key) : PyData := .str k.s
structure Stt where
  t : Txt
  b : Txt
  q : Bool
  o : List Txt
  p : Txt
deriving DecidableEq
def Stt.e (s : Stt) : PyData := .tuple [tx s.t, tx s.b, .int (qi s.q), .tuple (s.o.map tx), tx s.p]
@[simp] theorem s_eq (x y : Str) : cmpD .eq (.str x) (.str y) = some (.bool (decide (x = y))) := by
  simp only [cmpD, eqD, scP, isSc, PyData.eqv]
  by_cases h : x = y <;> simp [h]
@[simp] theorem s_ne (x y : Str) : cmpD .ne (.str x) (.str y) = some (.bool (!decide (x = y))) := by
  simp only [cmpD, eqD, scP, isSc, PyData.eqv]
  by_cases h : x = y <;> simp [h]
@[simp] theorem st_iff (a b : Txt) : (st a = st b) = (a = b) := by
  apply propext
  exact ⟨st_inj, fun h => h ▸ rfl⟩
@[simp] theorem ch_common (c : Ch) : (c.s = Str.ofString "common") = (c = .common) := by cases c <;> (apply propext; constructor <;> intro h <;> first | rfl | (exact absurd h (by decide +kernel)) | (cases h))
@[simp] theorem ch_first (c : Ch) : (c.s = Str.ofString "first") = (c = .first) := by cases c <;> (apply propext; constructor <;> intro h <;> first | rfl | (exact absurd h (by decide +kernel)) | (cases h))
@[simp] theorem ch_short (c : Ch) : (c.s = Str.ofString "short") = (c = .short) := by cases c <;> (apply propext; constructor <;> intro h <;> first | rfl | (exact absurd h (by decide +kernel)) | (cases h))
@[simp] theorem ac_tab (c : Ac) : (c.s = Str.ofString "tab") = (c = .tab) := by cases c <;> (apply propext; constructor <;> intro h <;> first | rfl | (exact absurd h (by decide +kernel)) | (cases h))
@[simp] theorem ac_blank (c : Ac) : (c.s = Str.ofString "blank") = (c = .blank) := by cases c <;> (apply propext; constructor <;> intro h <;> first | rfl | (exact absurd h (by decide +kernel)) | (cases h))
@[simp] theorem ac_always (c : Ac) : (c.s = Str.ofString "always") = (c = .always) := by cases c <;> (apply propext; constructor <;> intro h <;> first | rfl | (exact absurd h (by decide +kernel)) | (cases h))
@[simp] theorem ag_next (c : Ag) : (c.s = Str.ofString "next") = (c = .next) := by cases c <;> (apply propext; constructor <;> intro h <;> first | rfl | (exact absurd h (by decide +kernel)) | (cases h))
@[simp] theorem ag_stay (c : Ag) : (c.s = Str.ofString "stay") = (c = .stay) := by cases c <;> (apply propext; constructor <;> intro h <;> first | rfl | (exact absurd h (by decide +kernel)) | (cases h))
@[simp] theorem bk_offer (c : Bk) : (c.s = Str.ofString "offer") = (c = .offer) := by cases c <;> (apply propext; constructor <;> intro h <;> first | rfl | (exact absurd h (by decide +kernel)) | (cases h))
@[simp] theorem bk_letter (c : Bk) : (c.s = Str.ofString "letter") = (c = .letter) := by cases c <;> (apply propext; constructor <;> intro h <;> first | rfl | (exact absurd h (by decide +kernel)) | (cases h))
@[simp] theorem bk_both (c : Bk) : (c.s = Str.ofString "both") = (c = .both) := by cases c <;> (apply propext; constructor <;> intro h <;> first | rfl | (exact absurd h (by decide +kernel)) | (cases h))
@[simp] theorem k_tab (k : Key) : (k.s = Str.ofString "tab") = (k = .tab) := by cases k <;> (apply propext; constructor <;> intro h <;> first | rfl | (exact absurd h (by decide +kernel)) | (cases h))
@[simp] theorem k_blank (k : Key) : (k.s = Str.ofString "blank") = (k = .blank) := by cases k <;> (apply propext; constructor <;> intro h <;> first | rfl | (exact absurd h (by decide +kernel)) | (cases h))
@[simp] theorem k_back (k : Key) : (k.s = Str.ofString "back") = (k = .back) := by cases k <;> (apply propext; constructor <;> intro h <;> first | rfl | (exact absurd h (by decide +kernel)) | (cases h))
@[simp] theorem k_end (k : Key) : (k.s = Str.ofString "end") = (k = .fin) := by cases k <;> (apply propext; constructor <;> intro h <;> first | rfl | (exact absurd h (by decide +kernel)) | (cases h))
@[simp] theorem asg_stt (s : Stt) (ts : Tgs) (ρ : Rho) : asgT (.tp ts) s.e ρ = asgTs ts [tx s.t, tx s.b, .int (qi s.q), .tuple (s.o.map tx), tx s.p] ρ := by simp [Stt.e]
@[simp] theorem ix_s0 (s : Stt) : ixD s.e (.int 0) = some (tx s.t) := by simp [Stt.e]
@[simp] theorem ix_s1 (s : Stt) : ixD s.e (.int 1) = some (tx s.b) := by simp [Stt.e]
@[simp] theorem ix_s2 (s : Stt) : ixD s.e (.int 2) = some (.int (qi s.q)) := by simp [Stt.e]
@[simp] theorem ix_s3 (s : Stt) : ixD s.e (.int 3) = some (.tuple (s.o.map tx)) := by simp [Stt.e]
@[simp] theorem ix_s4 (s : Stt) : ixD s.e (.int 4) = some (tx s.p) := by simp [Stt.e]
@[simp] theorem ix_w0 (w : Way) : ixD w.e (.int 0) = some (.str w.ch.s) := by simp [Way.e]
@[simp] theorem ix_w1 (w : Way) : ixD w.e (.int 1) = some (.int (siI w.si)) := by simp [Way.e]
@[simp] theorem ix_w2 (w : Way) : ixD w.e (.int 2) = some (.str w.ac.s) := by simp [Way.e]
@[simp] theorem ix_w3 (w : Way) : ixD w.e (.int 3) = some (.str w.ag.s) := by simp [Way.e]
@[simp] theorem ix_w4 (w : Way) : ixD w.e (.int 4) = some (.str w.bk.s) := by simp [Way.e]
@[simp] theorem ix_w5 (w : Way) : ixD w.e (.int 5) = some (.int (qi w.le)) := by simp [Way.e]
@[simp] theorem qi_one (b : Bool) : (qi b = 1) = (b = true) := by cases b <;> simp [qi]
@[simp] theorem qi_zero (b : Bool) : (qi b = 0) = (b = false) := by cases b <;> simp [qi]
/-! ### lists as the builtins take them -/
theorem mapM_map {α β γ : Type} (f : β → Option γ) (e : α → β) (g : α → γ) (h : ∀ x, f (e x) = some (g x)) : ∀ l : List α, (l.map e).mapM f = some (l.map g)
  | [] => rfl
  | x :: r => by
    rw [List.map_cons, List.mapM_cons, h, mapM_map f e g h r]
    rfl
theorem d_all {α : Type} (p : α → Bool) (l : List α) : biD .all (.list (l.map fun x => .bool (p x))) = some (.bool (l.all p)) := by
  simp only [biD]
  rw [mapM_map boolOf (fun x => .bool (p x)) p fun _ => rfl]
  simp [List.all_map]
@[simp] theorem d_allT {α : Type} (l : List α) : biD .all (.list (l.map fun _ => .bool true)) = some (.bool true) := by
  rw [d_all (fun _ => true) l]
  rw [List.all_eq_true.mpr fun _ _ => rfl]
def mn : List Nat → Nat
  | [] => 0
  | x :: r => r.foldl min x
theorem foldl_minI : ∀ (r : List Nat) (x : Nat), (r.map fun (n : Nat) => (n : Int)).foldl min (x : Int) = ((r.foldl min x : Nat) : Int)
  | [], _ => rfl
  | y :: r, x => by
    rw [List.map_cons, List.foldl_cons, List.foldl_cons]
    have : min (x : Int) (y : Int) = ((min x y : Nat) : Int) := by omega
    rw [this, foldl_minI r]
theorem d_min {α : Type} (f : α → Nat) (l : List α) (h : l ≠ []) : biD .min (.list (l.map fun x => .int (f x))) = some (.int (mn (l.map f))) := by
  cases l with
  | nil => exact absurd rfl h
  | cons x r =>
    simp only [biD]
    rw [mapM_map intOf (fun x => .int (f x)) (fun x => ((f x : Nat) : Int)) fun _ => rfl]
    simp only [Option.bind_some, List.map_cons, minI, mn]
    rw [← foldl_minI, List.map_map]
    rfl
theorem idx_find {α : Type} (en : α → PyData) (a : PyData) (p : α → Bool) (h : ∀ x, PyData.eqv (en x) a = p x) : ∀ l : List α, idxD a (l.map en) = l.findIdx? p
  | [] => rfl
  | x :: r => by
    rw [List.map_cons, idxD, h, List.findIdx?_cons, idx_find en a p h r]
/-! ### what the program computes -/
def fit (o : List Txt) (t : Txt) : List Txt := o.filter fun w => decide (t.length < w.length) && decide (w.take t.length = t)
def comAux (rs : List Txt) : Nat → Txt → Txt → Txt
  | _, acc, [] => acc
  | i, acc, c :: r => if rs.all fun x => decide ((x.drop i).take 1 = [c]) then comAux rs (i + 1) (acc ++ [c]) r else acc
def com (rs : List Txt) : Txt := comAux rs 0 [] (rs.headD [])
def short (rs : List Txt) : Txt := (rs.find? fun r => decide (r.length = mn (rs.map List.length))).getD []
def rests (o : List Txt) (t : Txt) : List Txt := (fit o t).map fun w => w.drop t.length
def quietB (w : Way) (s : Stt) : Bool := s.q || (decide ((s.t.length : Int) < siI w.si) || decide (fit s.o s.t = []))
def offer (w : Way) (s : Stt) : Txt := if quietB w s then [] else match w.ch with
  | .common => com (rests s.o s.t)
  | .first => (rests s.o s.t).headD []
  | .short => short (rests s.o s.t)
def cyc (ws : List Txt) (t : Txt) : Txt := (ws[(if t ∈ ws then (ws.findIdx? (fun x => decide (x = t))).getD 0 + 1 else 0) % ws.length]?).getD []
def pressTab (w : Way) (s : Stt) : Stt :=
  if offer w s ≠ [] then ⟨s.t ++ offer w s, s.t, true, s.o, []⟩
  else if w.ag = .next ∧ s.b ≠ [] then ⟨cyc (fit s.o s.b) s.t, s.b, true, s.o, []⟩
  else ⟨s.t, s.b, s.q, s.o, []⟩
def learn (w : Way) (t : Txt) (o : List Txt) : List Txt := if w.le ∧ t ∈ o then t :: o.filter (fun x => !decide (x = t)) else o
def pressEnd (w : Way) (s : Stt) (takes : Bool) : Stt :=
  let t := if takes then s.t ++ offer w s else s.t
  ⟨[], [], false, learn w t s.o, t⟩
def pressBack (w : Way) (s : Stt) : Stt :=
  let t := if offer w s = [] ∨ w.bk ≠ .offer then s.t.dropLast else s.t
  ⟨t, [], !(decide (w.bk = .letter) || decide (t = [])), s.o, []⟩
def typed (s : Stt) (c : Bool) : Stt := if s.t.length = 4 then ⟨s.t, s.b, s.q, s.o, []⟩ else ⟨s.t ++ [c], [], false, s.o, []⟩
def stepP (w : Way) (s : Stt) : Key → Stt
  | .tab => pressTab w s
  | .blank => pressEnd w s (!decide (w.ac = .tab))
  | .fin => pressEnd w s (decide (w.ac = .always))
  | .back => pressBack w s
  | .a => typed s false
  | .b => typed s true
end FO

set_option Elab.async false
set_option linter.all false
set_option maxRecDepth 10000
set_option maxHeartbeats 1000000
namespace FO
open PySem L2
/-! ### what stays true of a state -/
/-- a list of words -/
structure Words (ws : List Txt) : Prop where
  pos : 1 ≤ ws.length
  few : ws.length ≤ 3
  len : ∀ w ∈ ws, 1 ≤ w.length ∧ w.length ≤ 3
  nd : ws.Nodup
theorem fit_mem {o : List Txt} {t w : Txt} (h : w ∈ fit o t) : w ∈ o ∧ t.length < w.length ∧ w.take t.length = t := by
  unfold fit at h
  obtain ⟨h1, h2⟩ := List.mem_filter.mp h
  simp only [Bool.and_eq_true, decide_eq_true_eq] at h2
  exact ⟨h1, h2⟩
theorem com_pre (rs : List Txt) : ∀ (l : Txt) (i : Nat) (acc : Txt), comAux rs i acc l <+: acc ++ l
  | [], i, acc => by simp [comAux]
  | c :: r, i, acc => by
    unfold comAux
    split
    · have := com_pre rs r (i + 1) (acc ++ [c])
      rwa [List.append_assoc] at this
    · exact List.prefix_append _ _
theorem rest_of {o : List Txt} {t x : Txt} (h : x ∈ rests o t) : t ++ x ∈ o ∧ x ≠ [] := by
  obtain ⟨w, h1, rfl⟩ := List.mem_map.mp h
  obtain ⟨h2, h3, h4⟩ := fit_mem h1
  refine ⟨?_, ?_⟩
  · have : t ++ w.drop t.length = w := by
      conv => lhs; lhs; rw [← h4]
      exact List.take_append_drop _ _
    rw [this]; exact h2
  · intro e
    have := congrArg List.length e
    rw [List.length_drop, List.length_nil] at this
    omega
/-- an offer goes on towards a word -/
theorem offer_to {w : Way} {s : Stt} (h : offer w s ≠ []) : (∃ x ∈ s.o, s.t ++ offer w s <+: x) ∧ fit s.o s.t ≠ [] ∧ s.q = false ∧ s.t ≠ [] := by
  have hq : quietB w s = false := by
    cases c : quietB w s with
    | false => rfl
    | true => exfalso; apply h; unfold offer; rw [c, if_pos rfl]
  have hq2 := hq
  unfold quietB at hq2
  simp only [Bool.or_eq_false_iff, decide_eq_false_iff_not] at hq2
  obtain ⟨q1, q2, q3⟩ := hq2
  have hne : rests s.o s.t ≠ [] := by unfold rests; simpa using q3
  obtain ⟨r0, rr, e0⟩ := List.exists_cons_of_ne_nil hne
  have key : ∃ x ∈ rests s.o s.t, offer w s <+: x := by
    unfold offer
    rw [hq, if_neg Bool.false_ne_true]
    cases w.ch with
    | common =>
      refine ⟨r0, by rw [e0]; exact List.mem_cons_self, ?_⟩
      dsimp only
      unfold com
      rw [e0]
      have := com_pre (r0 :: rr) r0 0 []
      simpa using this
    | first => exact ⟨r0, by rw [e0]; exact List.mem_cons_self, by rw [e0]; exact List.prefix_refl _⟩
    | short =>
      dsimp only
      unfold short
      cases hf : (rests s.o s.t).find? fun r => decide (r.length = mn ((rests s.o s.t).map List.length)) with
      | none => exact ⟨r0, by rw [e0]; exact List.mem_cons_self, List.nil_prefix⟩
      | some x => exact ⟨x, List.mem_of_find?_eq_some hf, List.prefix_refl _⟩
  obtain ⟨x, hx, hp⟩ := key
  refine ⟨⟨s.t ++ x, (rest_of hx).1, (List.prefix_append_right_inj _).mpr hp⟩, q3, q1, fun e => ?_⟩
  rw [e] at q2
  cases hsi : w.si <;> rw [hsi] at q2 <;> exact q2 (by decide)
theorem cyc_mem {ws : List Txt} (t : Txt) (h : ws ≠ []) : cyc ws t ∈ ws := by
  unfold cyc
  have hl : 0 < ws.length := List.length_pos_iff.mpr h
  have hlt := Nat.mod_lt (if t ∈ ws then (ws.findIdx? fun x => decide (x = t)).getD 0 + 1 else 0) hl
  rw [List.getElem?_eq_getElem hlt]
  exact List.getElem_mem hlt
structure Gs (w : Way) (ws : List Txt) (s : Stt) : Prop where
  tl : s.t.length ≤ 4
  perm : s.o.Perm ws
  bt : s.b ≠ [] → s.b <+: s.t ∧ s.q = true ∧ fit s.o s.b ≠ []
  pt : s.p ≠ [] → s.t = []
  keep : w.le = false → s.o = ws
theorem Gs.ow {w : Way} {ws : List Txt} {s : Stt} (g : Gs w ws s) (h : Words ws) : ∀ x ∈ s.o, 1 ≤ x.length ∧ x.length ≤ 3 := fun x hx => h.len x (g.perm.mem_iff.mp hx)
theorem Gs.ol {w : Way} {ws : List Txt} {s : Stt} (g : Gs w ws s) (h : Words ws) : s.o.length ≤ 3 := by rw [g.perm.length_eq]; exact h.few
theorem gs_begin (w : Way) (ws : List Txt) : Gs w ws ⟨[], [], false, ws, []⟩ := ⟨by simp, List.Perm.refl _, fun h => absurd rfl h, fun _ => rfl, fun _ => rfl⟩
theorem learn_perm {w : Way} {t : Txt} {o : List Txt} (nd : o.Nodup) : (learn w t o).Perm o := by
  unfold learn
  by_cases c : w.le = true ∧ t ∈ o
  · rw [if_pos c]
    have e : o.filter (fun x => !decide (x = t)) = o.erase t := by
      rw [nd.erase_eq_filter]
      apply List.filter_congr
      intro x _
      by_cases h : x = t <;> simp [h]
    rw [e]
    exact (List.perm_cons_erase c.2).symm
  · rw [if_neg c]
theorem gs_step {w : Way} {ws : List Txt} {s : Stt} (hw : Words ws) (g : Gs w ws s) (k : Key) : Gs w ws (stepP w s k) := by
  have nd : s.o.Nodup := (g.perm.nodup_iff).mpr hw.nd
  cases k with
  | tab =>
    show Gs w ws (pressTab w s)
    unfold pressTab
    by_cases c : offer w s = []
    · rw [if_neg (by simpa using c)]
      by_cases c2 : w.ag = .next ∧ s.b ≠ []
      · rw [if_pos c2]
        obtain ⟨b1, b2, b3⟩ := g.bt c2.2
        have hm := cyc_mem s.t b3
        obtain ⟨m1, m2, m3⟩ := fit_mem hm
        have := g.ow hw _ m1
        exact ⟨by dsimp only; omega, g.perm, fun _ => ⟨by have := List.take_prefix s.b.length (cyc (fit s.o s.b) s.t); rw [m3] at this; exact this, rfl, b3⟩, fun h => absurd rfl h, g.keep⟩
      · rw [if_neg c2]
        exact ⟨g.tl, g.perm, g.bt, fun h => absurd rfl h, g.keep⟩
    · rw [if_pos c]
      obtain ⟨⟨x, hx, hp⟩, f1, f2, f3⟩ := offer_to c
      have h1 := hp.length_le
      have h2 := g.ow hw x hx
      exact ⟨by dsimp only; omega, g.perm, fun _ => ⟨List.prefix_append _ _, rfl, f1⟩, fun h => absurd rfl h, g.keep⟩
  | blank => exact ⟨by simp [stepP, pressEnd], (learn_perm nd).trans g.perm, fun h => absurd rfl h, fun _ => rfl, fun h => by simp [stepP, pressEnd, learn, h, g.keep h]⟩
  | fin => exact ⟨by simp [stepP, pressEnd], (learn_perm nd).trans g.perm, fun h => absurd rfl h, fun _ => rfl, fun h => by simp [stepP, pressEnd, learn, h, g.keep h]⟩
  | back =>
    have := g.tl
    refine ⟨?_, g.perm, fun h => absurd rfl h, fun h => absurd rfl h, g.keep⟩
    show (if offer w s = [] ∨ w.bk ≠ .offer then s.t.dropLast else s.t).length ≤ 4
    split
    · rw [List.length_dropLast]; omega
    · exact this
  | a =>
    show Gs w ws (typed s false)
    unfold typed
    have := g.tl
    by_cases c : s.t.length = 4
    · rw [if_pos c]; exact ⟨g.tl, g.perm, g.bt, fun h => absurd rfl h, g.keep⟩
    · rw [if_neg c]; exact ⟨by simp; omega, g.perm, fun h => absurd rfl h, fun h => absurd rfl h, g.keep⟩
  | b =>
    show Gs w ws (typed s true)
    unfold typed
    have := g.tl
    by_cases c : s.t.length = 4
    · rw [if_pos c]; exact ⟨g.tl, g.perm, g.bt, fun h => absurd rfl h, g.keep⟩
    · rw [if_neg c]; exact ⟨by simp; omega, g.perm, fun h => absurd rfl h, fun h => absurd rfl h, g.keep⟩
theorem gs_offer {w : Way} {ws : List Txt} {s : Stt} (hw : Words ws) (g : Gs w ws s) : (s.t ++ offer w s).length ≤ 4 := by
  by_cases c : offer w s = []
  · rw [c, List.append_nil]; exact g.tl
  · obtain ⟨⟨x, hx, hp⟩, _⟩ := offer_to c
    have h1 := hp.length_le
    have h2 := g.ow hw x hx
    omega
/-- states along a row -/
def sts (w : Way) : Stt → List Key → List Stt
  | s, [] => [s]
  | s, k :: r => s :: sts w (stepP w s k) r
theorem sts_len (w : Way) : ∀ (r : List Key) (s : Stt), (sts w s r).length = r.length + 1
  | [], _ => rfl
  | _ :: r, s => by rw [sts, List.length_cons, sts_len w r, List.length_cons]
theorem sts_gs {w : Way} {ws : List Txt} (hw : Words ws) : ∀ (r : List Key) (s : Stt), Gs w ws s → ∀ x ∈ sts w s r, Gs w ws x
  | [], s, g, x, h => by
    have : x = s := by simpa [sts] using h
    exact this ▸ g
  | k :: r, s, g, x, h => by
    rcases List.mem_cons.mp (show x ∈ s :: sts w (stepP w s k) r from h) with e | h
    · exact e ▸ g
    · exact sts_gs hw r _ (gs_step hw g k) x h
end FO

set_option Elab.async false
set_option linter.all false
set_option maxRecDepth 10000
set_option maxHeartbeats 1000000
namespace FO
open PySem L2
abbrev FF (n i : Nat) (ws : List W) (S : Sto) : Res W := fnAt gcU tbU FU n i ws S
abbrev PP (n : Nat) : Pg := pgAt gcU tbU FU n
@[simp] theorem pp_fn (n f : Nat) (ws : List W) (S : Sto) : (PP n).fn f ws S = FF n f ws S := rfl
theorem pred_of {d n : Nat} (h : d + 1 ≤ n) : ∃ m, n = m + 1 ∧ d ≤ m := ⟨n - 1, by omega, by omega⟩
theorem e_fitting {n : Nat} (hn : 1 ≤ n) {S : Sto} (o : List Txt) (t : Txt) (ho : o.length ≤ 100) (hw : ∀ w ∈ o, w.length ≤ 100) (ht : t.length ≤ 100) : FF n 14 [.d (.tuple (o.map tx)), .d (tx t)] S = .ok (.d (.list ((fit o t).map tx))) S := by
  obtain ⟨n, rfl, hm⟩ := pred_of hn
  show callB (PP n) FU fn_fitting _ _ = _
  refine call_ret rfl ?_
  have ht1 : t.length ≤ 1000000 := by omega
  simp [fn_fitting, ir_fitting, Df.fn, startR, exSs_cons]
  rw [comp_if o tx (fun w => decide (t.length < w.length) && decide (w.take t.length = t)) tx]
  · rfl
  · simp [itemsD]
  · omega
  · intro x hx
    have hx1 : x.length ≤ 1000000 := by have := hw x hx; omega
    refine ⟨_, rfl, ?_, fun _ => ?_⟩
    · by_cases h : t.length < x.length <;> simp [hx1, ht1, cut_to, h]
    · simp
theorem fit_len (o : List Txt) (t : Txt) : (fit o t).length ≤ o.length := List.length_filter_le _ _
theorem e_common {n : Nat} (hn : 1 ≤ n) {S : Sto} (rs : List Txt) (h0 : rs ≠ []) (hl : rs.length ≤ 100) (hw : ∀ w ∈ rs, w.length ≤ 100) : FF n 15 [.d (.list (rs.map tx))] S = .ok (.d (tx (com rs))) S := by
  obtain ⟨n, rfl, hm⟩ := pred_of hn
  show callB (PP n) FU fn_common _ _ = _
  refine call_ret rfl ?_
  obtain ⟨r0, rr, e0⟩ := List.exists_cons_of_ne_nil h0
  have h00 : r0.length ≤ 100 := hw r0 (by rw [e0]; exact List.mem_cons_self)
  have h01 : r0.length ≤ 1000000 := by omega
  have hx0 : (rs.map tx)[0]? = some (tx r0) := by rw [e0]; rfl
  simp [fn_common, ir_common, Df.fn, startR]
  rw [exSs_cons]
  simp
  rw [exSs_cons]
  simp [hx0, itemsE, h01, st_items]
  have turn : ∀ (c : Bool) (i : Nat) (acc : Txt) (x2 x3 : Sl), acc.length + 1 ≤ 1000000 → loopB (PP n) FU (.tp (.cons (.nm 2) (.cons (.nm 3) .nil))) lb_common_1 (.tuple [.int i, tx [c]]) [.val (.d (.list (rs.map tx))), .val (.d (tx acc)), x2, x3, .un] S =
      if rs.all fun x => decide ((x.drop i).take 1 = [c]) then .next [.val (.d (.list (rs.map tx))), .val (.d (tx (acc ++ [c]))), .val (.d (.int i)), .val (.d (tx [c])), .un] S else .ret (.d (tx acc)) S := by
    intro c i acc x2 x3 hacc
    have hc : ev (PP n) (.comp (.nm 4) (.e (.v 0)) (.c (.bool true)) (.cmp .eq (.sl (.v 4) (.v 2) (.bin .add (.v 2) (.c (.int 1)))) (.v 3))) [.val (.d (.list (rs.map tx))), .val (.d (tx acc)), .val (.d (.int i)), .val (.d (tx [c])), .un] S
        = .ok (.d (.list (rs.map fun x => .bool (decide ((x.drop i).take 1 = [c]))))) S := by
      rw [comp_all rs tx (fun x => .bool (decide ((x.drop i).take 1 = [c])))]
      · simp [itemsD]
      · omega
      · intro x hx
        have hx1 : x.length ≤ 1000000 := by have := hw x hx; omega
        refine ⟨_, rfl, ?_⟩
        have e1 : ((i : Int) + 1) = ((i + 1 : Nat) : Int) := by omega
        simp [hx1]
        rw [e1, cut_mid]
        simp
    obtain ⟨b, hb⟩ : ∃ b, (rs.all fun x => decide ((x.drop i).take 1 = [c])) = b := ⟨_, rfl⟩
    rw [hb]
    simp only [loopB]
    simp [lb_common_1, exSs_cons]
    rw [hc, data_ok, d_all, hb]
    cases b with
    | true => simp [isSc, hacc]
    | false => simp
  have loop : ∀ (l : Txt) (i : Nat) (acc : Txt) (x2 x3 : Sl), acc.length + l.length ≤ 100 → (forL (loopB (PP n) FU (.tp (.cons (.nm 2) (.cons (.nm 3) .nil))) lb_common_1) (enumD i (l.map fun c => tx [c])) [.val (.d (.list (rs.map tx))), .val (.d (tx acc)), x2, x3, .un] S).then
      (fun ρ' S' => exSs (PP n) FU (.cons (.ret (.v 1)) .nil) ρ' S') = .ret (.d (tx (comAux rs i acc l))) S := by
    intro l
    induction l with
    | nil =>
      intro i acc x2 x3 _
      simp [enumD, forL, exSs_cons, comAux]
    | cons c r ih =>
      intro i acc x2 x3 ha
      rw [List.length_cons] at ha
      simp only [List.map_cons, enumD, forL]
      rw [turn c i acc x2 x3 (by omega)]
      cases hb : rs.all fun x => decide ((x.drop i).take 1 = [c]) with
      | true =>
        rw [if_pos rfl, then_next, ih (i + 1) (acc ++ [c]) _ _ (by simp; omega)]
        simp only [comAux, hb, if_pos]
      | false =>
        rw [if_neg Bool.false_ne_true, then_ret, then_ret]
        simp [comAux, hb]
  rw [loop r0 0 [] .un .un (by simpa using h00)]
  simp [com, e0]
theorem eqv_nat (m n : Nat) : PyData.eqv (.int (m : Int)) (.int (n : Int)) = decide (m = n) := by
  simp only [PyData.eqv]
  by_cases h : m = n
  · subst h; simp
  · rw [decide_eq_false h]
    exact beq_eq_false_iff_ne.mpr fun e => h (by omega)
structure Wf (s : Stt) : Prop where
  t : s.t.length ≤ 4
  b : s.b.length ≤ 4
  o : s.o.length ≤ 3
  w : ∀ w ∈ s.o, w.length ≤ 3
theorem rests_len {o : List Txt} {t x : Txt} (hw : ∀ w ∈ o, w.length ≤ 3) (h : x ∈ rests o t) : x.length ≤ 3 := by
  obtain ⟨w, h1, rfl⟩ := List.mem_map.mp h
  have := hw w (fit_mem h1).1
  rw [List.length_drop]; omega
theorem rests_many (o : List Txt) (t : Txt) : (rests o t).length ≤ o.length := by unfold rests; rw [List.length_map]; exact fit_len o t
theorem find_at {α : Type} (p : α → Bool) : ∀ l : List α, l.findIdx? p = none ∨ ∃ j, l.findIdx? p = some j ∧ l[j]? = l.find? p
  | [] => .inl rfl
  | x :: r => by
    rw [List.findIdx?_cons, List.find?_cons]
    cases h : p x with
    | true => exact .inr ⟨0, rfl, rfl⟩
    | false =>
      rcases find_at p r with e | ⟨j, e1, e2⟩
      · rw [e]; exact .inl rfl
      · rw [e1]; exact .inr ⟨j + 1, rfl, by simpa using e2⟩
theorem foldl_min_mem : ∀ (r : List Nat) (x : Nat), r.foldl min x = x ∨ r.foldl min x ∈ r
  | [], _ => .inl rfl
  | y :: r, x => by
    rw [List.foldl_cons]
    rcases foldl_min_mem r (min x y) with h | h
    · rw [h]
      by_cases c : x ≤ y
      · rw [Nat.min_eq_left c]; exact .inl rfl
      · rw [Nat.min_eq_right (by omega)]; exact .inr List.mem_cons_self
    · exact .inr (List.mem_cons_of_mem _ h)
theorem mn_mem {l : List Nat} (h : l ≠ []) : mn l ∈ l := by
  cases l with
  | nil => exact absurd rfl h
  | cons x r =>
    rcases foldl_min_mem r x with e | e
    · show r.foldl min x ∈ x :: r; rw [e]; exact List.mem_cons_self
    · exact List.mem_cons_of_mem _ e
theorem short_at {rs : List Txt} (h : rs ≠ []) : ∃ j, rs.findIdx? (fun r => decide (r.length = mn (rs.map List.length))) = some j ∧ rs[j]? = some (short rs) := by
  have hm := mn_mem (l := rs.map List.length) (by simpa using h)
  obtain ⟨r, hr, e⟩ := List.mem_map.mp hm
  have hf : (rs.find? fun r => decide (r.length = mn (rs.map List.length))).isSome = true := List.find?_isSome.mpr ⟨r, hr, decide_eq_true e⟩
  obtain ⟨y, hy⟩ := Option.isSome_iff_exists.mp hf
  rcases find_at (fun r : Txt => decide (r.length = mn (rs.map List.length))) rs with e1 | ⟨j, e1, e2⟩
  · rw [List.findIdx?_eq_none_iff] at e1
    have := e1 r hr
    rw [decide_eq_true e] at this
    cases this
  · exact ⟨j, e1, by rw [e2, hy]; unfold short; rw [hy]; rfl⟩
theorem e_offer {n : Nat} (hn : 2 ≤ n) {S : Sto} (w : Way) (s : Stt) (h : Wf s) : FF n 16 [.d w.e, .d s.e] S = .ok (.d (tx (offer w s))) S := by
  obtain ⟨n, rfl, hm⟩ := pred_of hn
  show callB (PP n) FU fn_offer_of _ _ = _
  refine call_ret rfl ?_
  have h1 := h.t
  have h2 := h.o
  have ht : s.t.length ≤ 1000000 := by omega
  have ef := e_fitting hm (S := S) s.o s.t (by omega) (fun w hw => by have := h.w w hw; omega) (by omega)
  simp [fn_offer_of, ir_offer_of, Df.fn, startR]
  rw [exSs_cons]
  simp
  rw [exSs_cons]
  simp [ef]
  rw [exSs_cons, iff_b (t := quietB w s) (S1 := S) ?c1]
  case c1 =>
    unfold quietB
    cases s.q <;> by_cases h : (s.t.length : Int) < siI w.si <;> simp [ht, d_isnil tx _ 0 (shp_tx 0), h]
  obtain ⟨qb, hqb⟩ : ∃ b, quietB w s = b := ⟨_, rfl⟩
  unfold offer
  rw [hqb]
  cases qb with
  | true => simp [exSs_cons]
  | false =>
    simp
    have hne : fit s.o s.t ≠ [] := by
      intro e
      unfold quietB at hqb
      rw [e] at hqb
      simp at hqb
    have hrs : rests s.o s.t ≠ [] := by unfold rests; simpa using hne
    rw [exSs_cons]
    simp
    rw [comp_all (fit s.o s.t) tx (fun x => tx (x.drop s.t.length)) ?c2 (by have := fit_len s.o s.t; omega) ?c3]
    case c2 => simp [itemsD]
    case c3 =>
      intro x hx
      have hx1 : x.length ≤ 1000000 := by have := h.w x (fit_mem hx).1; omega
      exact ⟨_, rfl, by simp [hx1, ht, cut_from]⟩
    have er : ((fit s.o s.t).map fun x => tx (x.drop s.t.length)) = (rests s.o s.t).map tx := by unfold rests; rw [List.map_map]; rfl
    rw [er]
    have hl := rests_many s.o s.t
    simp
    rw [exSs_cons]
    cases hc : w.ch with
    | common =>
      have ec := e_common hm (S := S) (rests s.o s.t) hrs (by omega) fun x hx => by have := rests_len h.w hx; omega
      simp [hc, exSs_cons, ec]
    | first =>
      simp [hc, exSs_cons]
      obtain ⟨r0, rr, e0⟩ := List.exists_cons_of_ne_nil hrs
      simp [e0]
    | short =>
      simp [hc]
      rw [exSs_cons]
      simp [hc]
      rw [exSs_cons]
      simp
      rw [comp_all (rests s.o s.t) tx (fun x => .int (x.length : Nat)) ?c4 (by omega) ?c5]
      case c4 => simp [itemsD]
      case c5 =>
        intro x hx
        have hx1 : x.length ≤ 1000000 := by have := rests_len h.w hx; omega
        exact ⟨_, rfl, by simp [hx1]⟩
      obtain ⟨j, j1, j2⟩ := short_at hrs
      have hsh : Shp 1 (.list ((rests s.o s.t).map fun x => PyData.int (x.length : Nat))) := shp_lst fun x hx => by
        obtain ⟨y, _, rfl⟩ := List.mem_map.mp hx
        exact shp_int 0 _
      have hix : bmD .index (.list ((rests s.o s.t).map fun x => PyData.int (x.length : Nat))) (.int (mn ((rests s.o s.t).map List.length))) = some (.int (j : Nat)) := by
        simp only [bmD, (shp_int 1 _).ok (by decide), hsh.ok (by decide), Bool.and_self, if_true]
        rw [idx_find (fun x : Txt => PyData.int (x.length : Nat)) _ (fun r : Txt => decide (r.length = mn ((rests s.o s.t).map List.length))) (fun x => eqv_nat _ _), j1]
        rfl
      simp
      rw [exSs_cons]
      simp [d_min List.length _ hrs, bmOk, hix, j2]
theorem offer_len {w : Way} {s : Stt} (h : Wf s) : (offer w s).length ≤ 3 := by
  unfold offer
  by_cases c : quietB w s = true
  · rw [if_pos c]; simp
  · rw [if_neg c]
    cases w.ch with
    | common =>
      dsimp only
      have key : ∀ (l : Txt) (i : Nat) (acc : Txt), (comAux (rests s.o s.t) i acc l).length ≤ acc.length + l.length := by
        intro l
        induction l with
        | nil => intro i acc; simp [comAux]
        | cons c r ih =>
          intro i acc
          unfold comAux
          split
          · have := ih (i + 1) (acc ++ [c])
            simp at this ⊢
            omega
          · simp
      have h1 := key ((rests s.o s.t).headD []) 0 []
      unfold com
      cases hr : rests s.o s.t with
      | nil => simp [comAux]
      | cons x r =>
        have hx := rests_len h.w (t := s.t) (x := x) (by rw [hr]; exact List.mem_cons_self)
        rw [hr] at h1
        simp at h1 ⊢
        omega
    | first =>
      dsimp only
      cases hr : rests s.o s.t with
      | nil => simp
      | cons x r => exact rests_len h.w (t := s.t) (x := x) (by rw [hr]; exact List.mem_cons_self)
    | short =>
      dsimp only
      unfold short
      cases hf : (rests s.o s.t).find? fun r => decide (r.length = mn ((rests s.o s.t).map List.length)) with
      | none => simp
      | some x => exact rests_len h.w (t := s.t) (List.mem_of_find?_eq_some hf)
theorem findIdx_mem {ws : List Txt} {t : Txt} (h : t ∈ ws) : ∃ j, ws.findIdx? (fun x => decide (x = t)) = some j ∧ j < ws.length := by
  cases e : ws.findIdx? (fun x => decide (x = t)) with
  | none =>
    rw [List.findIdx?_eq_none_iff] at e
    have := e t h
    simp at this
  | some j => exact ⟨j, rfl, (List.findIdx?_eq_some_iff_getElem.mp e).1⟩
theorem e_tab {n : Nat} (hn : 3 ≤ n) {S : Sto} (w : Way) (s : Stt) (h : Wf s) (hb : s.b ≠ [] → fit s.o s.b ≠ []) : FF n 17 [.d w.e, .d s.e] S = .ok (.d (pressTab w s).e) S := by
  obtain ⟨n, rfl, hm⟩ := pred_of hn
  show callB (PP n) FU fn_press_tab _ _ = _
  refine call_ret rfl ?_
  have h1 := h.t
  have h2 := h.o
  have ht : s.t.length ≤ 1000000 := by omega
  have hol := offer_len (w := w) h
  have eo := e_offer hm (S := S) w s h
  simp [fn_press_tab, ir_press_tab, Df.fn, startR]
  rw [exSs_cons]
  simp
  rw [exSs_cons]
  simp [eo]
  rw [exSs_cons]
  unfold pressTab
  by_cases c : offer w s = []
  · simp [c]
    rw [exSs_cons]
    by_cases c2 : w.ag = .next ∧ s.b ≠ []
    · have hne := hb c2.2
      have ef := e_fitting (n := n) (by omega) (S := S) s.o s.b (by omega) (fun w hw => by have := h.w w hw; omega) (by have := h.b; omega)
      have hfl : 0 < (fit s.o s.b).length := List.length_pos_iff.mpr hne
      have hfl3 := fit_len s.o s.b
      simp [c2.1, c2.2]
      rw [exSs_cons]
      simp [ef]
      rw [exSs_cons]
      by_cases c3 : s.t ∈ fit s.o s.b
      · obtain ⟨j, j1, j2⟩ := findIdx_mem c3
        have hix : bmD .index (.list ((fit s.o s.b).map tx)) (tx s.t) = some (.int (j : Nat)) := by
          simp only [bmD, (shp_tx 1 _).ok (by decide), (shp_txs _).ok (by decide), Bool.and_self, if_true]
          rw [idx_find _ _ (fun r => decide (r = s.t)) fun x => eqv_tx _ _, j1]
          rfl
        simp [c3, bmOk, hix]
        have em : ((j : Int) + 1) % ((fit s.o s.b).length : Int) = (((j + 1) % (fit s.o s.b).length : Nat) : Int) := by
          rw [Int.natCast_emod]; rfl
        have hlt : (j + 1) % (fit s.o s.b).length < (fit s.o s.b).length := Nat.mod_lt _ hfl
        obtain ⟨x, hx⟩ : ∃ x, (fit s.o s.b)[(j + 1) % (fit s.o s.b).length]? = some x := ⟨_, List.getElem?_eq_getElem hlt⟩
        have ec : cyc (fit s.o s.b) s.t = x := by
          unfold cyc
          rw [if_pos c3, j1, Option.getD_some, hx]; rfl
        rw [ec]
        have hi2 : ixD (.list ((fit s.o s.b).map tx)) (.int (((j : Int) + 1) % ((fit s.o s.b).length : Int))) = some (tx x) := by
          rw [em]
          show atI _ _ = _
          rw [at_nat, List.getElem?_map, hx]; rfl
        simp [exSs_cons, biD, binD, hfl, hi2, lim, Stt.e, qi]
      · obtain ⟨x, hx⟩ : ∃ x, (fit s.o s.b)[0]? = some x := ⟨_, List.getElem?_eq_getElem hfl⟩
        have ec : cyc (fit s.o s.b) s.t = x := by
          unfold cyc
          rw [if_neg c3, Nat.zero_mod, hx]; rfl
        rw [ec]
        simp [c3, exSs_cons, biD, binD, hfl, lim, Stt.e, qi]
        exact (List.getElem?_eq_some_iff.mp hx).2
    · rw [if_neg c2, iff_b (t := false) (S1 := S) ?c4]
      case c4 =>
        by_cases c4 : w.ag = .next
        · have : s.b = [] := Classical.byContradiction fun z => c2 ⟨c4, z⟩
          simp [c4, this]
        · simp [c4]
      simp [exSs_cons, lim, Stt.e]
  · have hz : s.t.length + (offer w s).length ≤ 1000000 := by omega
    simp [c, exSs_cons, hz, lim, Stt.e, qi]
end FO

set_option Elab.async false
set_option linter.all false
set_option maxRecDepth 10000
set_option maxHeartbeats 1000000
namespace FO
open PySem L2
theorem e_end {n : Nat} (hn : 3 ≤ n) {S : Sto} (w : Way) (s : Stt) (k : Bool) (h : Wf s) : FF n 18 [.d w.e, .d s.e, .d (.bool k)] S = .ok (.d (pressEnd w s k).e) S := by
  obtain ⟨n, rfl, hm⟩ := pred_of hn
  show callB (PP n) FU fn_press_end _ _ = _
  refine call_ret rfl ?_
  have h1 := h.t
  have h2 := h.o
  have hol := offer_len (w := w) h
  have hz : s.t.length + (offer w s).length ≤ 1000000 := by omega
  have eo := e_offer hm (S := S) w s h
  simp [fn_press_end, ir_press_end, Df.fn, startR]
  rw [exSs_cons]
  simp
  rw [exSs_cons]
  -- the text that is put in
  obtain ⟨t, ht⟩ : ∃ t, t = (if k then s.t ++ offer w s else s.t) := ⟨_, rfl⟩
  have hs1 : exS (PP n) FU (.iff (.v 2) (.cons (.aug 3 .add (.call 16 (.cons (.v 0) (.cons (.v 1) .nil)))) .nil) .nil) [.val (.d w.e), .val (.d s.e), .val (.d (.bool k)), .val (.d (tx s.t)), .val (.d (tx s.b)), .val (.d (.int (qi s.q))), .val (.d (.tuple (s.o.map tx))), .val (.d (tx s.p)), .un] S =
      .next [.val (.d w.e), .val (.d s.e), .val (.d (.bool k)), .val (.d (tx t)), .val (.d (tx s.b)), .val (.d (.int (qi s.q))), .val (.d (.tuple (s.o.map tx))), .val (.d (tx s.p)), .un] S := by
    cases k <;> simp [exSs_cons, eo, isSc, hz, ht]
  rw [hs1, then_next]
  unfold pressEnd
  rw [← ht]
  have htl : t.length ≤ 7 := by
    rw [ht]
    cases k <;> simp <;> omega
  rw [exSs_cons, iff_b (t := w.le && decide (t ∈ s.o)) (S1 := S) ?c1]
  case c1 => cases hl : w.le <;> simp [hl]
  by_cases c : w.le = true ∧ t ∈ s.o
  · simp [c.1, c.2, exSs_cons]
    rw [comp_if s.o tx (fun x => !decide (x = t)) tx ?c2 (by omega) ?c3]
    case c2 => simp [itemsD]
    case c3 =>
      intro x hx
      exact ⟨_, rfl, by simp, fun _ => by simp⟩
    have hfl := List.length_filter_le (fun x => !decide (x = t)) s.o
    have hle : 1 + (s.o.filter fun x => !decide (x = t)).length ≤ 1000000 := by omega
    simp [biD, binD, learn, c.1, c.2, Stt.e, qi, hle]
  · have c' : (w.le && decide (t ∈ s.o)) = false := by
      cases hl : w.le <;> simp_all
    simp [c', exSs_cons, lim, Stt.e, qi, learn, c]
theorem e_back {n : Nat} (hn : 3 ≤ n) {S : Sto} (w : Way) (s : Stt) (h : Wf s) : FF n 19 [.d w.e, .d s.e] S = .ok (.d (pressBack w s).e) S := by
  obtain ⟨n, rfl, hm⟩ := pred_of hn
  show callB (PP n) FU fn_press_back _ _ = _
  refine call_ret rfl ?_
  have h1 := h.t
  have ht1 : s.t.length ≤ 1000000 := by omega
  have eo := e_offer hm (S := S) w s h
  simp [fn_press_back, ir_press_back, Df.fn, startR]
  rw [exSs_cons]
  simp
  rw [exSs_cons]
  obtain ⟨t, ht⟩ : ∃ t, t = (if offer w s = [] ∨ w.bk ≠ .offer then s.t.dropLast else s.t) := ⟨_, rfl⟩
  rw [iff_b (t := decide (offer w s = [] ∨ w.bk ≠ .offer)) (S1 := S) ?c1]
  case c1 =>
    by_cases c : offer w s = [] <;> by_cases c2 : w.bk = .offer <;> simp [eo, c, c2]
  have hs : (if decide (offer w s = [] ∨ w.bk ≠ .offer) = true then exSs (PP n) FU (.cons (.asg (.nm 2) (.sl (.v 2) (.c .none) (.neg (.c (.int 1))))) .nil) [.val (.d w.e), .val (.d s.e), .val (.d (tx s.t)), .val (.d (tx s.b)), .val (.d (.int (qi s.q))), .val (.d (.tuple (s.o.map tx))), .val (.d (tx s.p))] S
      else exSs (PP n) FU .nil [.val (.d w.e), .val (.d s.e), .val (.d (tx s.t)), .val (.d (tx s.b)), .val (.d (.int (qi s.q))), .val (.d (.tuple (s.o.map tx))), .val (.d (tx s.p))] S) = .next [.val (.d w.e), .val (.d s.e), .val (.d (tx t)), .val (.d (tx s.b)), .val (.d (.int (qi s.q))), .val (.d (.tuple (s.o.map tx))), .val (.d (tx s.p))] S := by
    by_cases c : offer w s = [] ∨ w.bk ≠ .offer
    · rw [decide_eq_true c, if_pos rfl, ht, if_pos c]
      simp [exSs_cons, ht1, cut_last]
    · rw [decide_eq_false c, if_neg Bool.false_ne_true, ht, if_neg c]
      simp
  rw [hs, then_next]
  unfold pressBack
  rw [← ht, exSs_cons]
  by_cases c : w.bk = .letter <;> by_cases c2 : t = [] <;> simp [c, c2, Stt.e, qi]
theorem g_most : gcU 2 = some (.int 4) := rfl
theorem e_typed (s : Stt) (c : Bool) (h : Wf s) : binD .add (tx s.t) (tx [c]) = some (tx (s.t ++ [c])) := d_add _ _ (by have := h.t; simp; omega)
theorem e_step {n : Nat} (hn : 4 ≤ n) {S : Sto} (w : Way) (s : Stt) (k : Key) (h : Wf s) (hb : s.b ≠ [] → fit s.o s.b ≠ []) : FF n 20 [.d w.e, .d s.e, .d k.e] S = .ok (.d (stepP w s k).e) S := by
  obtain ⟨n, rfl, hm⟩ := pred_of hn
  show callB (PP n) FU fn_step _ _ = _
  refine call_ret rfl ?_
  have h1 := h.t
  have ht1 : s.t.length ≤ 1000000 := by omega
  have e1 := e_tab hm (S := S) w s h hb
  have e2 := e_end hm (S := S) w s (!decide (w.ac = .tab)) h
  have e3 := e_end hm (S := S) w s (decide (w.ac = .always)) h
  have e4 := e_back hm (S := S) w s h
  have letter : ∀ c : Bool, exSs (PP n) FU (.cons (.asg (.tp (.cons (.nm 3) (.cons (.nm 4) (.cons (.nm 5) (.cons (.nm 6) (.cons (.nm 7) .nil)))))) (.v 1)) (.cons (.iff (.cmp .eq (.bi .len (.v 3)) (.g 2)) (.cons (.ret (.tup (.cons (.v 3) (.cons (.v 4) (.cons (.v 5) (.cons (.v 6) (.cons (.c (.str "")) .nil))))))) .nil) .nil) (.cons (.ret (.tup (.cons (.bin .add (.v 3) (.v 2)) (.cons (.c (.str "")) (.cons (.c (.int 0)) (.cons (.v 6) (.cons (.c (.str "")) .nil))))))) .nil))) [.val (.d w.e), .val (.d s.e), .val (.d (tx [c])), .un, .un, .un, .un, .un] S = .ret (.d (typed s c).e) S := by
    intro c
    have hz : s.t.length + [c].length ≤ 1000000 := by simp; omega
    rw [exSs_cons]
    simp
    rw [exSs_cons, iff_b (t := decide (s.t.length = 4)) (S1 := S) ?c1]
    case c1 =>
      simp [ht1, g_most]
      by_cases c : s.t.length = 4
      · simp [c]
      · have : ¬ ((s.t.length : Int) = 4) := by omega
        simp [c, this]
    unfold typed
    by_cases c : s.t.length = 4
    · simp [c, exSs_cons, Stt.e]
    · have hz2 : s.t.length + 1 ≤ 1000000 := by omega
      simp [c, exSs_cons, Stt.e, qi, hz2]
  cases k with
  | tab => simp [fn_step, ir_step, Df.fn, startR, exSs_cons, Key.e, stepP, e1]
  | blank => simp [fn_step, ir_step, Df.fn, startR, exSs_cons, Key.e, stepP, e2]
  | fin => simp [fn_step, ir_step, Df.fn, startR, exSs_cons, Key.e, stepP, e3]
  | back => simp [fn_step, ir_step, Df.fn, startR, exSs_cons, Key.e, stepP, e4]
  | a =>
    have := letter false
    simp [fn_step, ir_step, Df.fn, startR, Key.e, stepP] at this ⊢
    rw [exSs_cons]
    simp
    rw [exSs_cons]
    simp
    rw [exSs_cons]
    simp
    rw [exSs_cons]
    simp
    exact this
  | b =>
    have := letter true
    simp [fn_step, ir_step, Df.fn, startR, Key.e, stepP] at this ⊢
    rw [exSs_cons]
    simp
    rw [exSs_cons]
    simp
    rw [exSs_cons]
    simp
    rw [exSs_cons]
    simp
    exact this
/-- what is seen -/
def viewE (w : Way) (s : Stt) (sight : Bool) : PyData := if sight then tx s.p else .tuple [tx s.t, tx (offer w s), tx s.p]
theorem e_view {n : Nat} (hn : 3 ≤ n) {S : Sto} (w : Way) (s : Stt) (g : Bool) (h : Wf s) : FF n 21 [.d w.e, .d s.e, .d (.int (qi g))] S = .ok (.d (viewE w s g)) S := by
  obtain ⟨n, rfl, hm⟩ := pred_of hn
  show callB (PP n) FU fn_view_of _ _ = _
  refine call_ret rfl ?_
  have eo := e_offer hm (S := S) w s h
  cases g <;> simp [fn_view_of, ir_view_of, Df.fn, startR, exSs_cons, viewE, eo]
def begin (ws : List Txt) : Stt := ⟨[], [], false, ws, []⟩
theorem e_begun {n : Nat} (hn : 1 ≤ n) {S : Sto} (ws : List Txt) : FF n 13 [.d (.list (ws.map tx))] S = .ok (.d (begin ws).e) S := by
  obtain ⟨n, rfl, hm⟩ := pred_of hn
  show callB (PP n) FU fn_begun_with _ _ = _
  refine call_ret rfl ?_
  simp [fn_begun_with, ir_begun_with, Df.fn, startR, exSs_cons, biD, begin, Stt.e, qi]
end FO

set_option Elab.async false
set_option linter.all false
set_option maxRecDepth 10000
set_option maxHeartbeats 1000000
namespace FO
open PySem L2
/-! ### checks -/
theorem e_is_int {n : Nat} (hn : 1 ≤ n) {S : Sto} (i a b : Int) : FF n 0 [.d (.int i), .d (.int a), .d (.int b)] S = .ok (.d (.bool (decide (a ≤ i) && decide (i ≤ b)))) S := by
  obtain ⟨n, rfl, hm⟩ := pred_of hn
  show callB (PP n) FU fn_is_int _ _ = _
  refine call_ret rfl ?_
  by_cases c : a ≤ i <;> simp [fn_is_int, ir_is_int, Df.fn, startR, exSs_cons, tyD, c]
theorem e_check_number {n : Nat} (hn : 2 ≤ n) {S : Sto} (i a b : Int) (h1 : a ≤ i) (h2 : i ≤ b) : FF n 1 [.d (.int i), .d (.int a), .d (.int b)] S = .ok (.d .none) S := by
  obtain ⟨n, rfl, hm⟩ := pred_of hn
  show callB (PP n) FU fn_check_number _ _ = _
  have e := e_is_int hm (S := S) i a b
  refine call_next rfl (ρ := [.val (.d (.int i)), .val (.d (.int a)), .val (.d (.int b))]) ?_
  simp [fn_check_number, ir_check_number, Df.fn, startR, exSs_cons, e, h1, h2]
theorem e_check_sight {n : Nat} (hn : 3 ≤ n) {S : Sto} (g : Bool) : FF n 2 [.d (.int (qi g))] S = .ok (.d .none) S := by
  obtain ⟨n, rfl, hm⟩ := pred_of hn
  show callB (PP n) FU fn_check_sight _ _ = _
  have e := e_check_number hm (S := S) (qi g) 0 1 (by cases g <;> decide) (by cases g <;> decide)
  refine call_next rfl (ρ := [.val (.d (.int (qi g)))]) ?_
  simp [fn_check_sight, ir_check_sight, Df.fn, startR, exSs_cons, e]
theorem g_keys : gcU 0 = some (.tuple [.str "a", .str "b", .str "tab", .str "blank", .str "back", .str "end"]) := rfl
theorem g_row : gcU 1 = some (.int 40) := rfl
theorem in_strs (x : Str) (l : List Str) : cmpD .in_ (.str x) (.tuple (l.map .str)) = some (.bool (decide (x ∈ l))) := by
  have h2 : (l.map PyData.str).all isSc = true := by rw [List.all_map]; exact List.all_eq_true.mpr fun _ _ => rfl
  have h3 : ((l.map PyData.str).any fun z => PyData.eqv z (.str x)) = decide (x ∈ l) := by
    rw [List.any_map]
    by_cases h : x ∈ l
    · rw [decide_eq_true h]
      exact List.any_eq_true.mpr ⟨x, h, by simp [PyData.eqv]⟩
    · rw [decide_eq_false h, Bool.eq_false_iff]
      intro hh
      obtain ⟨b, hb, e⟩ := List.any_eq_true.mp hh
      have : b = x := by simpa [PyData.eqv] using e
      exact h (this ▸ hb)
  simp only [cmpD, isSc, h2, Bool.and_self, if_true, h3]
theorem e_is_key {n : Nat} (hn : 1 ≤ n) {S : Sto} (k : Key) : FF n 3 [.d k.e] S = .ok (.d (.bool true)) S := by
  obtain ⟨n, rfl, hm⟩ := pred_of hn
  show callB (PP n) FU fn_is_key _ _ = _
  refine call_ret rfl ?_
  have e : cmpD .in_ (.str k.s) (.tuple [.str "a", .str "b", .str "tab", .str "blank", .str "back", .str "end"]) = some (.bool true) := by
    have := in_strs k.s ["a", "b", "tab", "blank", "back", "end"]
    rw [show (decide (k.s ∈ (["a", "b", "tab", "blank", "back", "end"] : List Str))) = true from by cases k <;> decide +kernel] at this
    exact this
  simp only [str_a, str_b] at e
  simp [fn_is_key, ir_is_key, Df.fn, startR, exSs_cons, tyD, Key.e, g_keys, e]
theorem e_is_row {n : Nat} (hn : 2 ≤ n) {S : Sto} (r : List Key) (h : r.length ≤ 40) : FF n 4 [.d (.list (r.map Key.e))] S = .ok (.d (.bool true)) S := by
  obtain ⟨n, rfl, hm⟩ := pred_of hn
  show callB (PP n) FU fn_is_row _ _ = _
  refine call_ret rfl ?_
  have hl : ((r.length : Int) ≤ 40) := by omega
  simp [fn_is_row, ir_is_row, Df.fn, startR]
  rw [exSs_cons]
  simp [tyD, g_row, hl]
  rw [comp_all r Key.e (fun _ => .bool true) ?c1 (by omega) ?c2]
  case c1 => simp [itemsD]
  case c2 =>
    intro x hx
    exact ⟨_, rfl, by simp [e_is_key hm]⟩
  simp
theorem e_check_row {n : Nat} (hn : 3 ≤ n) {S : Sto} (r : List Key) (h : r.length ≤ 40) : FF n 5 [.d (.list (r.map Key.e))] S = .ok (.d .none) S := by
  obtain ⟨n, rfl, hm⟩ := pred_of hn
  show callB (PP n) FU fn_check_row _ _ = _
  have e := e_is_row hm (S := S) r h
  refine call_next rfl (ρ := [.val (.d (.list (r.map Key.e)))]) ?_
  simp [fn_check_row, ir_check_row, Df.fn, startR, exSs_cons, e]
theorem e_all_keys {n : Nat} (hn : 1 ≤ n) {S : Sto} : FF n 6 [] S = .ok (.d (.list ([Key.a, .b, .tab, .blank, .back, .fin].map Key.e))) S := by
  obtain ⟨n, rfl, hm⟩ := pred_of hn
  show callB (PP n) FU fn_all_keys _ _ = _
  refine call_ret rfl ?_
  simp [fn_all_keys, ir_all_keys, Df.fn, startR, exSs_cons, g_keys, biD, Key.e, Key.s]
theorem e_is_letters {n : Nat} (hn : 1 ≤ n) {S : Sto} (t : Txt) (a b : Nat) (h1 : a ≤ t.length) (h2 : t.length ≤ b) (hb : b ≤ 1000) : FF n 7 [.d (tx t), .d (.int a), .d (.int b)] S = .ok (.d (.bool true)) S := by
  obtain ⟨n, rfl, hm⟩ := pred_of hn
  show callB (PP n) FU fn_is_letters _ _ = _
  refine call_ret rfl ?_
  have ht1 : t.length ≤ 1000000 := by omega
  simp [fn_is_letters, ir_is_letters, Df.fn, startR]
  rw [exSs_cons]
  simp [tyD, ht1, h1, h2]
  rw [exSs_cons]
  simp
  rw [comp_all t (fun c => tx [c]) (fun _ => .bool true) ?c1 (by omega) ?c2]
  case c1 => simp [d_items, ht1]
  case c2 =>
    intro x hx
    exact ⟨_, rfl, by simp⟩
  simp
theorem e_is_text {n : Nat} (hn : 2 ≤ n) {S : Sto} (t : Txt) (h : t.length ≤ 4) : FF n 8 [.d (tx t)] S = .ok (.d (.bool true)) S := by
  obtain ⟨n, rfl, hm⟩ := pred_of hn
  show callB (PP n) FU fn_is_text _ _ = _
  refine call_ret rfl ?_
  have e := e_is_letters hm (S := S) t 0 4 (by omega) h (by omega)
  simp at e
  simp [fn_is_text, ir_is_text, Df.fn, startR, exSs_cons, g_most, e]
theorem dedup_nd {l : List Str} (h : l.Nodup) : dedup l = l := by
  unfold dedup
  induction l with
  | nil => rfl
  | cons x r ih =>
    obtain ⟨h1, h2⟩ := List.nodup_cons.mp h
    rw [List.eraseDups_cons]
    have : r.filter (fun b => !b == x) = r := List.filter_eq_self.mpr fun y hy => by
      have : y ≠ x := fun e => h1 (e ▸ hy)
      simp [this]
    rw [this, ih h2]
theorem e_is_list {n : Nat} (hn : 2 ≤ n) {S : Sto} (ws : List Txt) (h : Words ws) : FF n 9 [.d (.list (ws.map tx))] S = .ok (.d (.bool true)) S := by
  obtain ⟨n, rfl, hm⟩ := pred_of hn
  show callB (PP n) FU fn_is_list _ _ = _
  refine call_ret rfl ?_
  have h1 := h.pos
  have h2 := h.few
  have i1 : ((1 : Int) ≤ ws.length) := by omega
  have i2 : ((ws.length : Int) ≤ 3) := by omega
  simp [fn_is_list, ir_is_list, Df.fn, startR]
  rw [exSs_cons]
  simp [tyD, i1, i2]
  rw [comp_all ws tx (fun _ => .bool true) ?c1 (by omega) ?c2]
  case c1 => simp [itemsD]
  case c2 =>
    intro x hx
    obtain ⟨x1, x2⟩ := h.len x hx
    have e := e_is_letters hm (S := S) x 1 3 x1 x2 (by omega)
    simp at e
    exact ⟨_, rfl, by simp [e]⟩
  have hls : biD .lenset (.list (ws.map tx)) = some (.int (ws.length : Nat)) := by
    simp only [biD]
    have hm2 : (ws.map tx).mapM strOf = some (ws.map st) := mapM_map strOf tx st (fun _ => rfl) ws
    have hnd : (ws.map st).Nodup := by
      rw [List.nodup_iff_pairwise_ne, List.pairwise_map]
      exact h.nd.imp fun hne e => hne (st_inj e)
    rw [hm2, Option.bind_some, dedup_nd hnd]
    have : Nat.blt ws.length 64 = true := Nat.ble_eq_true_of_le (by omega)
    simp [this]
  simp
  rw [exSs_cons]
  simp [hls]
theorem e_check_words {n : Nat} (hn : 3 ≤ n) {S : Sto} (ws : List Txt) (h : Words ws) : FF n 10 [.d (.list (ws.map tx))] S = .ok (.d .none) S := by
  obtain ⟨n, rfl, hm⟩ := pred_of hn
  show callB (PP n) FU fn_check_words _ _ = _
  have e := e_is_list hm (S := S) ws h
  refine call_next rfl (ρ := [.val (.d (.list (ws.map tx)))]) ?_
  simp [fn_check_words, ir_check_words, Df.fn, startR, exSs_cons, e]
theorem e_one_of {n : Nat} (hn : 1 ≤ n) {S : Sto} (x : Str) (l : List Str) (h : x ∈ l) : FF n 22 [.d (.str x), .d (.tuple (l.map .str))] S = .ok (.d (.bool true)) S := by
  obtain ⟨n, rfl, hm⟩ := pred_of hn
  show callB (PP n) FU fn_is_one_of _ _ = _
  refine call_ret rfl ?_
  simp [fn_is_one_of, ir_is_one_of, Df.fn, startR, exSs_cons, tyD, in_strs, h]
theorem g_choices : gcU 3 = some (.tuple ((["first", "short", "common"] : List Str).map PyData.str)) := rfl
theorem g_accepts : gcU 4 = some (.tuple ((["tab", "blank", "always"] : List Str).map PyData.str)) := rfl
theorem g_agains : gcU 5 = some (.tuple ((["next", "stay"] : List Str).map PyData.str)) := rfl
theorem g_backs : gcU 6 = some (.tuple ((["offer", "letter", "both"] : List Str).map PyData.str)) := rfl
theorem e_is_way {n : Nat} (hn : 2 ≤ n) {S : Sto} (w : Way) : FF n 23 [.d w.e] S = .ok (.d (.bool true)) S := by
  obtain ⟨n, rfl, hm⟩ := pred_of hn
  show callB (PP n) FU fn_is_way _ _ = _
  refine call_ret rfl ?_
  have e1 := e_one_of hm (S := S) w.ch.s ["first", "short", "common"] (by cases w.ch <;> decide +kernel)
  have e2 := e_one_of hm (S := S) w.ac.s ["tab", "blank", "always"] (by cases w.ac <;> decide +kernel)
  have e3 := e_one_of hm (S := S) w.ag.s ["next", "stay"] (by cases w.ag <;> decide +kernel)
  have e4 := e_one_of hm (S := S) w.bk.s ["offer", "letter", "both"] (by cases w.bk <;> decide +kernel)
  have e5 := e_is_int hm (S := S) (siI w.si) 1 2
  have e6 := e_is_int hm (S := S) (qi w.le) 0 1
  have i5 : (decide ((1 : Int) ≤ siI w.si) && decide (siI w.si ≤ 2)) = true := by cases w.si <;> decide
  have i6 : (decide ((0 : Int) ≤ qi w.le) && decide (qi w.le ≤ 1)) = true := by cases w.le <;> decide
  rw [i5] at e5
  rw [i6] at e6
  have hl : biD .len w.e = some (.int 6) := rfl
  have ht : tyD w.e .tuple = some true := rfl
  simp [fn_is_way, ir_is_way, Df.fn, startR]
  rw [exSs_cons]
  simp [hl, ht]
  rw [exSs_cons]
  simp only [List.map_cons, List.map_nil] at e1 e2 e3 e4
  simp [g_choices, g_accepts, e1, e2, e5]
  rw [exSs_cons]
  simp [g_agains, g_backs, e3, e4, e6]
theorem e_check_way {n : Nat} (hn : 3 ≤ n) {S : Sto} (w : Way) : FF n 24 [.d w.e] S = .ok (.d .none) S := by
  obtain ⟨n, rfl, hm⟩ := pred_of hn
  show callB (PP n) FU fn_check_way _ _ = _
  have e := e_is_way hm (S := S) w
  refine call_next rfl (ρ := [.val (.d w.e)]) ?_
  simp [fn_check_way, ir_check_way, Df.fn, startR, exSs_cons, e]
end FO

set_option Elab.async false
set_option linter.all false
set_option maxRecDepth 10000
set_option maxHeartbeats 1000000
namespace FO
open PySem L2
theorem Gs.wf {w : Way} {ws : List Txt} {s : Stt} (g : Gs w ws s) (h : Words ws) : Wf s := by
  refine ⟨g.tl, ?_, g.ol h, fun x hx => (g.ow h x hx).2⟩
  by_cases c : s.b = []
  · rw [c]; simp
  · have := (g.bt c).1.length_le
    have := g.tl
    omega
theorem Gs.fb {w : Way} {ws : List Txt} {s : Stt} (g : Gs w ws s) : s.b ≠ [] → fit s.o s.b ≠ [] := fun h => (g.bt h).2.2
theorem e_states_of {n : Nat} (hn : 5 ≤ n) {S : Sto} (w : Way) (ws : List Txt) (r : List Key) (hw : Words ws) (hr : r.length ≤ 1000) : FF n 25 [.d w.e, .d (.list (ws.map tx)), .d (.list (r.map Key.e))] S = .ok (.d (.list ((sts w (begin ws) r).map Stt.e))) S := by
  obtain ⟨n, rfl, hm⟩ := pred_of hn
  show callB (PP n) FU fn_states_of _ _ = _
  refine call_ret rfl ?_
  have turn : ∀ (acc : List Stt) (s : Stt) (k : Key) (x4 : Sl), Gs w ws s → acc.length + 1 < 1000000 → loopB (PP n) FU (.nm 4) lb_states_of_1 k.e [.val (.d w.e), .val (.d (.list (ws.map tx))), .val (.d (.list (r.map Key.e))), .own ((acc ++ [s]).map Stt.e), x4] S =
      .next [.val (.d w.e), .val (.d (.list (ws.map tx))), .val (.d (.list (r.map Key.e))), .own (((acc ++ [s]) ++ [stepP w s k]).map Stt.e), .val (.d k.e)] S := by
    intro acc s k x4 g hl
    have e := e_step hm (S := S) w s k (g.wf hw) g.fb
    have hlast : ixD (.list ((acc ++ [s]).map Stt.e)) (.int (-1)) = some s.e := by
      show atI _ _ = _
      rw [at_last _ (by simp), List.getLast?_map]
      simp
    simp only [loopB]
    simp only [List.map_append, List.map_cons, List.map_nil] at hlast
    simp [lb_states_of_1, exSs_cons, hlast, e, hl]
  have loop : ∀ (l : List Key) (acc : List Stt) (s : Stt) (x4 : Sl), Gs w ws s → acc.length + l.length < 2000 → (forL (loopB (PP n) FU (.nm 4) lb_states_of_1) (l.map Key.e) [.val (.d w.e), .val (.d (.list (ws.map tx))), .val (.d (.list (r.map Key.e))), .own ((acc ++ [s]).map Stt.e), x4] S).then
      (fun ρ' S' => exSs (PP n) FU (.cons (.ret (.v 3)) .nil) ρ' S') = .ret (.d (.list ((acc ++ sts w s l).map Stt.e))) S := by
    intro l
    induction l with
    | nil =>
      intro acc s x4 g _
      simp [forL, exSs_cons, sts]
    | cons k l ih =>
      intro acc s x4 g hl
      rw [List.length_cons] at hl
      rw [List.map_cons, forL, turn acc s k x4 g (by omega), then_next, ih (acc ++ [s]) (stepP w s k) _ (gs_step hw g k) (by simp; omega)]
      simp [sts]
  have eb := e_begun (n := n) (by omega) (S := S) ws
  simp [fn_states_of, ir_states_of, Df.fn, startR]
  rw [exSs_cons]
  simp [eb]
  rw [exSs_cons]
  simp
  have := loop r [] (begin ws) .un (gs_begin w ws) (by simp; omega)
  simp at this
  exact this
def shownP (w : Way) (ws : List Txt) (g : Bool) (r : List Key) : List PyData := (sts w (begin ws) r).tail.map fun s => viewE w s g
theorem sts_all {w : Way} {ws : List Txt} (hw : Words ws) (r : List Key) : ∀ x ∈ sts w (begin ws) r, Gs w ws x := sts_gs hw r _ (gs_begin w ws)
theorem e_shown {n : Nat} (hn : 6 ≤ n) {S : Sto} (w : Way) (ws : List Txt) (g : Bool) (r : List Key) (hw : Words ws) (hr : r.length ≤ 1000) : FF n 26 [.d w.e, .d (.list (ws.map tx)), .d (.int (qi g)), .d (.list (r.map Key.e))] S = .ok (.d (.list (shownP w ws g r))) S := by
  obtain ⟨n, rfl, hm⟩ := pred_of hn
  show callB (PP n) FU fn_shown _ _ = _
  refine call_ret rfl ?_
  have es := e_states_of hm (S := S) w ws r hw hr
  have hsl : slD (.list ((sts w (begin ws) r).map Stt.e)) (some 1) none = some (.list ((sts w (begin ws) r).tail.map Stt.e)) := by
    have := cut_from ((sts w (begin ws) r).map Stt.e) 1
    simp only [slD]
    rw [show (1 : Int) = ((1 : Nat) : Int) from rfl, this]
    simp [List.map_tail]
  have hlen := sts_len w r (begin ws)
  simp [fn_shown, ir_shown, Df.fn, startR]
  rw [exSs_cons]
  simp
  rw [comp_all (sts w (begin ws) r).tail Stt.e (fun s => viewE w s g) ?c1 (by rw [List.length_tail]; omega) ?c2]
  case c1 => simp [es, hsl]
  case c2 =>
    intro x hx
    have gx := sts_all hw r x (List.mem_of_mem_tail hx)
    exact ⟨_, rfl, by simp [e_view (n := n) (by omega) w x g (gx.wf hw)]⟩
  simp [shownP]
theorem e_views_of {n : Nat} (hn : 7 ≤ n) {S : Sto} (w : Way) (ws : List Txt) (g : Bool) (r : List Key) (hw : Words ws) (hr : r.length ≤ 40) : FF n 27 [.d w.e, .d (.list (ws.map tx)), .d (.int (qi g)), .d (.list (r.map Key.e))] S = .ok (.d (.list (shownP w ws g r))) S := by
  obtain ⟨n, rfl, hm⟩ := pred_of hn
  show callB (PP n) FU fn_views_of _ _ = _
  refine call_ret rfl ?_
  have e1 := e_check_way (n := n) (by omega) (S := S) w
  have e2 := e_check_words (n := n) (by omega) (S := S) ws hw
  have e3 := e_check_sight (n := n) (by omega) (S := S) g
  have e4 := e_check_row (n := n) (by omega) (S := S) r hr
  have e5 := e_shown hm (S := S) w ws g r hw (by omega)
  simp [fn_views_of, ir_views_of, Df.fn, startR, exSs_cons, e1, e2, e3, e4, e5]
theorem e_states_along {n : Nat} (hn : 6 ≤ n) {S : Sto} (w : Way) (ws : List Txt) (r : List Key) (hw : Words ws) (hr : r.length ≤ 40) : FF n 28 [.d w.e, .d (.list (ws.map tx)), .d (.list (r.map Key.e))] S = .ok (.d (.list ((sts w (begin ws) r).map Stt.e))) S := by
  obtain ⟨n, rfl, hm⟩ := pred_of hn
  show callB (PP n) FU fn_states_along _ _ = _
  refine call_ret rfl ?_
  have e1 := e_check_way (n := n) (by omega) (S := S) w
  have e2 := e_check_words (n := n) (by omega) (S := S) ws hw
  have e4 := e_check_row (n := n) (by omega) (S := S) r hr
  have e5 := e_states_of hm (S := S) w ws r hw (by omega)
  simp [fn_states_along, ir_states_along, Df.fn, startR, exSs_cons, e1, e2, e4, e5]
theorem sts_ne (w : Way) (s : Stt) (r : List Key) : sts w s r ≠ [] := by cases r <;> simp [sts]
def lastS (w : Way) (ws : List Txt) (r : List Key) : Stt := (sts w (begin ws) r).getLast (sts_ne _ _ _)
theorem e_state_after {n : Nat} (hn : 7 ≤ n) {S : Sto} (w : Way) (ws : List Txt) (r : List Key) (hw : Words ws) (hr : r.length ≤ 40) : FF n 29 [.d w.e, .d (.list (ws.map tx)), .d (.list (r.map Key.e))] S = .ok (.d (lastS w ws r).e) S := by
  obtain ⟨n, rfl, hm⟩ := pred_of hn
  show callB (PP n) FU fn_state_after _ _ = _
  refine call_ret rfl ?_
  have e5 := e_states_along hm (S := S) w ws r hw hr
  have hlast : ixD (.list ((sts w (begin ws) r).map Stt.e)) (.int (-1)) = some (lastS w ws r).e := by
    show atI _ _ = _
    rw [at_last _ (by simpa using sts_ne _ _ _), List.getLast?_map, List.getLast?_eq_some_getLast (sts_ne _ _ _)]
    rfl
  simp [fn_state_after, ir_state_after, Df.fn, startR, exSs_cons, e5, hlast]
def putsP (w : Way) (ws : List Txt) (r : List Key) : List Txt := ((sts w (begin ws) r).filter fun s => !decide (s.p = [])).map Stt.p
theorem e_put_in {n : Nat} (hn : 7 ≤ n) {S : Sto} (w : Way) (ws : List Txt) (r : List Key) (hw : Words ws) (hr : r.length ≤ 40) : FF n 30 [.d w.e, .d (.list (ws.map tx)), .d (.list (r.map Key.e))] S = .ok (.d (.list ((putsP w ws r).map tx))) S := by
  obtain ⟨n, rfl, hm⟩ := pred_of hn
  show callB (PP n) FU fn_put_in _ _ = _
  refine call_ret rfl ?_
  have e5 := e_states_along hm (S := S) w ws r hw hr
  have hlen := sts_len w r (begin ws)
  simp [fn_put_in, ir_put_in, Df.fn, startR]
  rw [exSs_cons]
  simp
  rw [comp_if (sts w (begin ws) r) Stt.e (fun s => !decide (s.p = [])) (fun s => tx s.p) ?c1 (by omega) ?c2]
  case c1 => simp [e5]
  case c2 =>
    intro x hx
    exact ⟨_, rfl, by simp, fun _ => by simp⟩
  simp [putsP]
end FO

set_option Elab.async false
set_option linter.all false
set_option maxRecDepth 10000
set_option maxHeartbeats 1000000
namespace FO
open PySem L2
def layer : Nat → List Txt
  | 0 => [[]]
  | n + 1 => (layer n).flatMap fun t => [t ++ [false], t ++ [true]]
def upTo : Nat → List Txt
  | 0 => []
  | n + 1 => upTo n ++ layer (n + 1)
theorem e_all_texts {n : Nat} (hn : 2 ≤ n) {S : Sto} : FF n 12 [] S = .ok (.d (.list ((upTo 4).map tx))) S := by
  obtain ⟨m, rfl⟩ : ∃ m, n = m + 2 := ⟨n - 2, by omega⟩
  kernel_rfl
theorem e_law_texts4 {n : Nat} (hn : 1 ≤ n) {S : Sto} : FF n 36 [.d (.int 4)] S = .ok (.d (.list ((upTo 4).map tx))) S := by
  obtain ⟨m, rfl⟩ : ∃ m, n = m + 1 := ⟨n - 1, by omega⟩
  kernel_rfl
theorem e_law_texts3 {n : Nat} (hn : 1 ≤ n) {S : Sto} : FF n 36 [.d (.int 3)] S = .ok (.d (.list ((upTo 3).map tx))) S := by
  obtain ⟨m, rfl⟩ : ∃ m, n = m + 1 := ⟨n - 1, by omega⟩
  kernel_rfl
theorem e_law_keys {n : Nat} (hn : 1 ≤ n) {S : Sto} : FF n 34 [] S = .ok (.d (.list ([Key.a, .b, .tab, .blank, .back, .fin].map Key.e))) S := by
  obtain ⟨m, rfl⟩ : ∃ m, n = m + 1 := ⟨n - 1, by omega⟩
  kernel_rfl
/-! ### the draws -/
def SdR (R : Sto) (nums : List Int) (c : Int) : Sto := .lst (nums.map PyData.int) :: .lstW [.ref 0, .d (.int c)] :: R
abbrev Sd (nums : List Int) (c : Int) : Sto := SdR [] nums c
theorem e_start {n : Nat} (hn : 1 ≤ n) (ns : List Int) : ∃ nums, nums ≠ [] ∧ FF n 31 [.d (.list (ns.map PyData.int))] [] = .ok (.ref 1) (Sd nums 0) := by
  obtain ⟨m, rfl⟩ : ∃ m, n = m + 1 := ⟨n - 1, by omega⟩
  refine ⟨if ns = [] then [0] else ns, by split <;> simp_all, ?_⟩
  show callB (PP m) FU fn__law_start _ _ = _
  refine call_ret rfl ?_
  have hs : cmpD .ne (.list (ns.map PyData.int)) (.list []) = some (.bool (!decide (ns = []))) := by
    rw [d_nev (n := 1) (shp_lst fun x hx => by obtain ⟨a, _, rfl⟩ := List.mem_map.mp hx; exact shp_int 0 a) (shp_lst fun x hx => by cases hx) (by decide), eqv_nil]
  simp [fn__law_start, ir__law_start, Df.fn, startR, exSs_cons, ev, evs]
  by_cases c : ns = []
  · subst c
    simp only [List.map_nil] at hs
    simp [hs, Sd, SdR]
  · simp [hs, c, Sd, SdR]
theorem e_draw {R : Sto} {n : Nat} (hn : 1 ≤ n) (nums : List Int) (c lim0 : Int) (hne : nums ≠ []) (hc : 0 ≤ c) (h1 : 0 < lim0) (h2 : lim0 < 1073741824) :
    ∃ v nums', 0 ≤ v ∧ v < lim0 ∧ nums' ≠ [] ∧ FF n 32 [.ref 1, .d (.int lim0)] (SdR R nums c) = .ok (.d (.int v)) (SdR R nums' (c + 1)) := by
  obtain ⟨m, rfl⟩ : ∃ m, n = m + 1 := ⟨n - 1, by omega⟩
  have hl : 0 < nums.length := List.length_pos_iff.mpr hne
  -- the place
  obtain ⟨j, hj⟩ : ∃ j : Nat, (c + 1) % (nums.length : Int) = (j : Int) := Int.eq_ofNat_of_zero_le (Int.emod_nonneg _ (by omega))
  have hjl : j < nums.length := by
    have := Int.emod_lt_of_pos (c + 1) (show (0 : Int) < nums.length by omega)
    omega
  obtain ⟨x, hx⟩ : ∃ x, nums[j]? = some x := ⟨_, List.getElem?_eq_getElem hjl⟩
  have hat : atI (nums.map PyData.int) (j : Int) = some (.int x) := by rw [at_nat, List.getElem?_map, hx]; rfl
  have hix : ixN nums.length (j : Int) = some j := by
    unfold ixN
    rw [if_pos (by omega), if_pos (by omega)]
    simp
  have hmod : ∀ i : Int, 0 ≤ i % lim0 ∧ i % lim0 < lim0 := fun i => ⟨Int.emod_nonneg _ (by omega), Int.emod_lt_of_pos _ h1⟩
  have hcd : binD .fdiv (.int x) (.int lim0) = some (.int (x / lim0)) := by
    have : decide (CDiv x lim0) = true := decide_eq_true ⟨h1, h2⟩
    simp only [binD, this, if_true]
  have hmd : ∀ y : Int, binD .mod (.int y) (.int lim0) = some (.int (y % lim0)) := fun y => by
    have : decide (0 < lim0) = true := decide_eq_true h1
    simp only [binD, this, if_true]
  by_cases hb : 1000000000000000000 ≤ x
  · refine ⟨x % lim0, nums.set j (x / lim0), (hmod x).1, (hmod x).2, by simpa using hne, ?_⟩
    show callB (PP m) FU fn__law_draw _ _ = _
    refine call_ret rfl ?_
    simp [fn__law_draw, ir__law_draw, Df.fn, startR]
    rw [exSs_cons]
    simp [SdR, atI, ixN]
    rw [exSs_cons]
    simp [atI, ixN]
    rw [exSs_cons]
    simp [atI, ixN, binD, hl, hj]
    rw [exSs_cons]
    simp [hat]
    rw [exSs_cons]
    simp [hb]
    rw [exSs_cons]
    simp [hcd, hix]
    rw [exSs_cons]
    simp [hmd]
  · have c1 : binD .mul (.int 104729) (.int (c + 1)) = some (.int (104729 * (c + 1))) := by
      have : decide (CMul 104729 (c + 1)) = true := decide_eq_true (.inl ⟨by decide, by decide⟩)
      simp only [binD, this, if_true]
    obtain ⟨a, ha⟩ : ∃ a, a = 104729 * (c + 1) := ⟨_, rfl⟩
    rw [← ha] at c1
    obtain ⟨y, y0, y1, c2⟩ : ∃ y, 0 ≤ y ∧ y < 4294967291 ∧ binD .mod (.int (x + a)) (.int 4294967291) = some (.int y) := ⟨(x + a) % 4294967291, Int.emod_nonneg _ (by decide), Int.emod_lt_of_pos _ (by decide), rfl⟩
    obtain ⟨z, c3⟩ : ∃ z, binD .pow (.int y) (.int 5) = some (.int z) := by
      have : decide (CPow y 5) = true := decide_eq_true ⟨by decide, by decide, by
        have : (2 : Nat) ^ 64 = 18446744073709551616 := by decide
        omega⟩
      exact ⟨y ^ (5 : Int).toNat, by simp only [binD, this, if_true]⟩
    obtain ⟨u, c4⟩ : ∃ u, binD .mod (.int z) (.int 4294967279) = some (.int u) := ⟨z % 4294967279, rfl⟩
    obtain ⟨v, c5⟩ : ∃ v, binD .fdiv (.int u) (.int 64) = some (.int v) := by
      have : decide (CDiv u 64) = true := decide_eq_true ⟨by decide, by decide⟩
      exact ⟨u / 64, by simp only [binD, this, if_true]⟩
    obtain ⟨v2, c6⟩ : ∃ v2, binD .mul (.int v) (.int 69621) = some (.int v2) := by
      have : decide (CMul v 69621) = true := decide_eq_true (.inr ⟨by decide, by decide⟩)
      exact ⟨v * 69621, by simp only [binD, this, if_true]⟩
    obtain ⟨v3, c7⟩ : ∃ v3, binD .mod (.int (v2 + u)) (.int 4294967231) = some (.int v3) := ⟨(v2 + u) % 4294967231, rfl⟩
    obtain ⟨v4, c8⟩ : ∃ v4, binD .fdiv (.int v3) (.int 8) = some (.int v4) := by
      have : decide (CDiv v3 8) = true := decide_eq_true ⟨by decide, by decide⟩
      exact ⟨v3 / 8, by simp only [binD, this, if_true]⟩
    refine ⟨v4 % lim0, nums, (hmod _).1, (hmod _).2, hne, ?_⟩
    show callB (PP m) FU fn__law_draw _ _ = _
    refine call_ret rfl ?_
    simp [fn__law_draw, ir__law_draw, Df.fn, startR]
    rw [exSs_cons]
    simp [SdR, atI, ixN]
    rw [exSs_cons]
    simp [atI, ixN]
    rw [exSs_cons]
    simp [atI, ixN, binD, hl, hj]
    rw [exSs_cons]
    simp [hat]
    rw [exSs_cons]
    simp [hb]
    rw [exSs_cons]
    simp [atI, ixN, c1, c2]
    rw [exSs_cons]
    simp [c3, c4]
    rw [exSs_cons]
    simp [c5, c6, c7, c8, hmd]
end FO

set_option Elab.async false
set_option linter.all false
set_option maxRecDepth 10000
set_option maxHeartbeats 1000000
namespace FO
open PySem L2
/-- the draws as they stand -/
def DrwR (R : Sto) (S : Sto) : Prop := ∃ nums c, nums ≠ [] ∧ 0 ≤ c ∧ S = SdR R nums c
abbrev Drw (S : Sto) : Prop := DrwR [] S
theorem d_draw {R : Sto} {n : Nat} (hn : 1 ≤ n) {S : Sto} (h : DrwR R S) (k : Nat) (h1 : 0 < k) (h2 : k ≤ 1000000) : ∃ v S', DrwR R S' ∧ v < k ∧ FF n 32 [.ref 1, .d (.int (k : Nat))] S = .ok (.d (.int (v : Nat))) S' := by
  obtain ⟨nums, c, hne, hc, rfl⟩ := h
  obtain ⟨v, nums', v0, v1, hne', e⟩ := e_draw hn nums c (k : Int) hne hc (by omega) (by omega)
  obtain ⟨m, rfl⟩ := Int.eq_ofNat_of_zero_le v0
  exact ⟨m, _, ⟨nums', c + 1, hne', by omega, rfl⟩, by omega, e⟩
theorem d_pick {R : Sto} {n : Nat} (hn : 2 ≤ n) {S : Sto} (h : DrwR R S) (xs : List PyData) (h1 : xs ≠ []) (h2 : xs.length ≤ 1000000) : ∃ x S', DrwR R S' ∧ x ∈ xs ∧ FF n 33 [.ref 1, .d (.list xs)] S = .ok (.d x) S' := by
  obtain ⟨n, rfl, hm⟩ := pred_of hn
  obtain ⟨v, S', hS', hv, e⟩ := d_draw hm h xs.length (List.length_pos_iff.mpr h1) h2
  obtain ⟨x, hx⟩ : ∃ x, xs[v]? = some x := ⟨_, List.getElem?_eq_getElem hv⟩
  refine ⟨x, S', hS', List.mem_of_getElem? hx, ?_⟩
  show callB (PP n) FU fn__law_pick _ _ = _
  refine call_ret rfl ?_
  simp [fn__law_pick, ir__law_pick, Df.fn, startR, exSs_cons, e, hx]
theorem d_way {R : Sto} {n : Nat} (hn : 3 ≤ n) {S : Sto} (h : DrwR R S) : ∃ (w : Way) (S' : Sto), DrwR R S' ∧ FF n 35 [.ref 1] S = .ok (.d w.e) S' := by
  obtain ⟨n, rfl, hm⟩ := pred_of hn
  obtain ⟨x1, S1, D1, m1, e1⟩ := d_pick hm h [.str "first", .str "short", .str "common"] (by simp) (by simp)
  obtain ⟨x2, S2, D2, m2, e2⟩ := d_pick hm D1 [.int 1, .int 1, .int 2] (by simp) (by simp)
  obtain ⟨x3, S3, D3, m3, e3⟩ := d_pick hm D2 [.str "tab", .str "blank", .str "always"] (by simp) (by simp)
  obtain ⟨x4, S4, D4, m4, e4⟩ := d_pick hm D3 [.str "next", .str "stay"] (by simp) (by simp)
  obtain ⟨x5, S5, D5, m5, e5⟩ := d_pick hm D4 [.str "offer", .str "letter", .str "both"] (by simp) (by simp)
  obtain ⟨v, S6, D6, hv, e6⟩ := d_draw (n := n) (by omega) D5 2 (by omega) (by omega)
  obtain ⟨c1, q1⟩ : ∃ c : Ch, x1 = .str c.s := by
    simp only [List.mem_cons, List.not_mem_nil, or_false] at m1
    rcases m1 with r | r | r
    · exact ⟨.first, r⟩
    · exact ⟨.short, r⟩
    · exact ⟨.common, r⟩
  obtain ⟨c2, q2⟩ : ∃ c : Bool, x2 = .int (siI c) := by
    simp only [List.mem_cons, List.not_mem_nil, or_false] at m2
    rcases m2 with r | r | r
    · exact ⟨false, r⟩
    · exact ⟨false, r⟩
    · exact ⟨true, r⟩
  obtain ⟨c3, q3⟩ : ∃ c : Ac, x3 = .str c.s := by
    simp only [List.mem_cons, List.not_mem_nil, or_false] at m3
    rcases m3 with r | r | r
    · exact ⟨.tab, r⟩
    · exact ⟨.blank, r⟩
    · exact ⟨.always, r⟩
  obtain ⟨c4, q4⟩ : ∃ c : Ag, x4 = .str c.s := by
    simp only [List.mem_cons, List.not_mem_nil, or_false] at m4
    rcases m4 with r | r
    · exact ⟨.next, r⟩
    · exact ⟨.stay, r⟩
  obtain ⟨c5, q5⟩ : ∃ c : Bk, x5 = .str c.s := by
    simp only [List.mem_cons, List.not_mem_nil, or_false] at m5
    rcases m5 with r | r | r
    · exact ⟨.offer, r⟩
    · exact ⟨.letter, r⟩
    · exact ⟨.both, r⟩
  obtain ⟨c6, q6⟩ : ∃ c : Bool, ((v : Nat) : Int) = qi c := by
    have : v = 0 ∨ v = 1 := by omega
    rcases this with r | r
    · exact ⟨false, by rw [r]; rfl⟩
    · exact ⟨true, by rw [r]; rfl⟩
  subst q1 q2 q3 q4 q5
  rw [q6] at e6
  refine ⟨⟨c1, c2, c3, c4, c5, c6⟩, S6, D6, ?_⟩
  show callB (PP n) FU fn__law_way _ _ = _
  refine call_ret rfl ?_
  have e6 : FF n 32 [.ref 1, .d (.int 2)] S5 = .ok (.d (.int (qi c6))) S6 := e6
  simp [fn__law_way, ir__law_way, Df.fn, startR]
  rw [exSs_cons]
  simp [e1, e2]
  rw [exSs_cons]
  simp [e3, e4]
  rw [exSs_cons]
  simp [e5, e6, Way.e]
/-- the texts that words are drawn from -/
def L0 : List Txt := layer 2 ++ layer 3 ++ [[false], [true]]
theorem L0_nd : L0.Nodup := by decide +kernel
theorem L0_len : ∀ x ∈ L0, 1 ≤ x.length ∧ x.length ≤ 3 := by decide +kernel
theorem tx_ne (x y : Txt) : (!decide (st x = st y)) = !decide (x = y) := by simp
theorem d_list {R : Sto} {n : Nat} (hn : 3 ≤ n) {S : Sto} (h : DrwR R S) (many : Nat) (hmany : 0 < many ∧ many ≤ 3) : ∃ (ws : List Txt) (S' : Sto), DrwR R S' ∧ Words ws ∧ ws.length ≤ many ∧ FF n 37 [.ref 1, .d (.int (many : Nat))] S = .ok (.d (.list (ws.map tx))) S' := by
  obtain ⟨n, rfl, hm⟩ := pred_of hn
  have e3 := e_law_texts3 (n := n) (by omega) (S := S)
  -- the loop
  have turn : ∀ (found left : List Txt) (a : Int) (x4 : Sl) (S : Sto), DrwR R S → left ≠ [] → left.length ≤ 100 → found.length ≤ 100 → ∃ x S', DrwR R S' ∧ x ∈ left ∧
      loopB (PP n) FU (.nm 4) lb__law_list_1 (.int a) [.val (.ref 1), .val (.d (.int (many : Nat))), .own (found.map tx), .val (.d (.list (left.map tx))), x4, .un] S =
      .next [.val (.ref 1), .val (.d (.int (many : Nat))), .own ((found ++ [x]).map tx), .val (.d (.list ((left.filter fun y => !decide (y = x)).map tx))), .val (.d (.int a)), .un] S' := by
    intro found left a x4 S D hl hl2 hf
    obtain ⟨x, S', D', mx, ex⟩ := d_pick hm D (left.map tx) (by simpa using hl) (by simp; omega)
    obtain ⟨y, hy, rfl⟩ := List.mem_map.mp mx
    refine ⟨y, S', D', hy, ?_⟩
    have hlast : ixD (.list (found.map tx ++ [tx y])) (.int (-1)) = some (tx y) := by
      show atI _ _ = _
      rw [at_last _ (by simp)]
      simp
    have hf2 : found.length < 1000000 := by omega
    simp only [loopB]
    simp [lb__law_list_1]
    rw [exSs_cons]
    simp [ex, hf2]
    rw [exSs_cons]
    simp
    rw [comp_if left tx (fun z => !decide (z = y)) tx ?c1 (by omega) ?c2]
    case c1 => simp
    case c2 =>
      intro z hz
      exact ⟨_, rfl, by simp [hlast], fun _ => by simp⟩
    simp
  have loop : ∀ (m : Nat) (a : Int) (found : List Txt) (x4 : Sl) (S : Sto), DrwR R S → found.Nodup → (∀ x ∈ found, x ∈ L0) → found.length + m ≤ 3 → ∃ (ws : List Txt) (S' : Sto) (x4' : Sl), DrwR R S' ∧ ws.Nodup ∧ (∀ x ∈ ws, x ∈ L0) ∧ ws.length = found.length + m ∧
      forL (loopB (PP n) FU (.nm 4) lb__law_list_1) (rngD a m) [.val (.ref 1), .val (.d (.int (many : Nat))), .own (found.map tx), .val (.d (.list ((L0.filter fun y => !decide (y ∈ found)).map tx))), x4, .un] S =
      .next [.val (.ref 1), .val (.d (.int (many : Nat))), .own (ws.map tx), .val (.d (.list ((L0.filter fun y => !decide (y ∈ ws)).map tx))), x4', .un] S' := by
    intro m
    induction m with
    | zero =>
      intro a found x4 S D nd hL _
      exact ⟨found, S, x4, D, nd, hL, rfl, rfl⟩
    | succ m ih =>
      intro a found x4 S D nd hL hlen
      have hleft : L0.filter (fun y => !decide (y ∈ found)) ≠ [] := by
        intro e
        have hsub : ∀ x ∈ L0, x ∈ found := fun x hx => by
          have := List.filter_eq_nil_iff.mp e x hx
          simpa using this
        have hle := List.Nodup.length_le_of_subset L0_nd hsub
        have : L0.length = 14 := by decide +kernel
        omega
      have hle := List.length_filter_le (fun y => !decide (y ∈ found)) L0
      have h14 : L0.length = 14 := by decide +kernel
      obtain ⟨x, S1, D1, mx, e⟩ := turn found _ a x4 S D hleft (by omega) (by omega)
      obtain ⟨mx1, mx2⟩ := List.mem_filter.mp mx
      have hx : x ∉ found := by simpa using mx2
      have hfil : ((L0.filter fun y => !decide (y ∈ found)).filter fun y => !decide (y = x)) = L0.filter fun y => !decide (y ∈ found ++ [x]) := by
        rw [List.filter_filter]
        apply List.filter_congr
        intro y _
        by_cases c1 : y ∈ found <;> by_cases c2 : y = x <;> simp [c1, c2]
      rw [hfil] at e
      obtain ⟨ws, S', x4', D', nd', hL', hlen', e'⟩ := ih (a + 1) (found ++ [x]) (.val (.d (.int a))) S1 D1 (List.nodup_append.mpr ⟨nd, by simp, fun y hy z hz => by
        have : z = x := by simpa using hz
        subst this
        intro e; exact hx (e ▸ hy)⟩) (fun y hy => by
        rcases List.mem_append.mp hy with z | z
        · exact hL y z
        · have : y = x := by simpa using z
          exact this ▸ mx1) (by simp; omega)
      refine ⟨ws, S', x4', D', nd', hL', by rw [hlen']; simp; omega, ?_⟩
      rw [rngD, forL, e, then_next, e']
  obtain ⟨v, S1, D1, hv, ed⟩ := d_draw (n := n) (by omega) h many (by omega) (by omega)
  obtain ⟨ws, S', x4', D', nd, hL, hlen, el⟩ := loop (1 + v) 0 [] .un S1 D1 List.nodup_nil (fun x hx => by cases hx) (by simp; omega)
  refine ⟨ws, S', D', ⟨by rw [hlen, List.length_nil]; omega, by rw [hlen, List.length_nil]; omega, fun x hx => L0_len x (hL x hx), nd⟩, by rw [hlen, List.length_nil]; omega, ?_⟩
  show callB (PP n) FU fn__law_list _ _ = _
  refine call_ret rfl ?_
  have hsl : (slD (.list ((upTo 3).map tx)) (some 2) none).bind (fun x => binD .add x (.list [tx [false], tx [true]])) = some (.list ((L0.filter fun y => !decide (y ∈ ([] : List Txt))).map tx)) := by kernel_rfl
  obtain ⟨c0, q1, q2⟩ := Option.bind_eq_some_iff.mp hsl
  have hr : rngR S1 (.int 0) (.int (1 + (v : Int))) = .ok (rngD 0 (1 + v)) S1 := by
    have h1 : rngOk 0 (1 + (v : Int)) = true := by
      unfold rngOk
      simp
      omega
    have h2 : ((1 + (v : Int)) - 0).toNat = 1 + v := by omega
    simp only [rngR, h1, if_true, h2]
  simp [fn__law_list, ir__law_list, Df.fn, startR]
  rw [exSs_cons]
  simp [e3, q1, q2]
  rw [exSs_cons]
  simp [ed, hr]
  simp only [List.map_nil, List.not_mem_nil, decide_false, Bool.not_false] at el
  rw [el, then_next]
  simp [exSs_cons]
/-- rows -/
theorem d_row {R : Sto} {n : Nat} (hn : 3 ≤ n) {S : Sto} (h : DrwR R S) (most : Nat) (hmost : most ≤ 100) : ∃ (r : List Key) (S' : Sto), DrwR R S' ∧ r.length ≤ most ∧ FF n 38 [.ref 1, .d (.int (most : Nat))] S = .ok (.d (.list (r.map Key.e))) S' := by
  obtain ⟨n, rfl, hm⟩ := pred_of hn
  obtain ⟨v, S1, D1, hv, ed⟩ := d_draw (n := n) (by omega) h (most + 1) (by omega) (by omega)
  have ed : FF n 32 [.ref 1, .d (.int ((most : Int) + 1))] S = .ok (.d (.int (v : Nat))) S1 := ed
  have one : ∀ (a : Int) (S : Sto), DrwR R S → ∃ (k : Key) (S' : Sto), DrwR R S' ∧ oneR (PP n) (.nm 2) (.c (.bool true)) (.call 33 (.cons (.v 0) (.cons (.lst (.cons (.c (.str "a")) (.cons (.c (.str "a")) (.cons (.c (.str "b")) (.cons (.c (.str "b")) (.cons (.c (.str "tab")) (.cons (.c (.str "tab")) (.cons (.c (.str "blank")) (.cons (.c (.str "back")) (.cons (.c (.str "end")) .nil)))))))))) .nil))) [.val (.ref 1), .val (.d (.int (most : Nat))), .un] (.int a) S = .ok (some k.e) S' := by
    intro a S D
    obtain ⟨x, S', D', mx, ex⟩ := d_pick hm D [.str "a", .str "a", .str "b", .str "b", .str "tab", .str "tab", .str "blank", .str "back", .str "end"] (by simp) (by simp)
    obtain ⟨k, rfl⟩ : ∃ k : Key, x = k.e := by
      simp only [List.mem_cons, List.not_mem_nil, or_false] at mx
      rcases mx with r | r | r | r | r | r | r | r | r
      · exact ⟨.a, r⟩
      · exact ⟨.a, r⟩
      · exact ⟨.b, r⟩
      · exact ⟨.b, r⟩
      · exact ⟨.tab, r⟩
      · exact ⟨.tab, r⟩
      · exact ⟨.blank, r⟩
      · exact ⟨.back, r⟩
      · exact ⟨.fin, r⟩
    refine ⟨k, S', D', ?_⟩
    simp only [str_a, str_b] at ex
    unfold oneR
    simp [ex]
  have loop : ∀ (m : Nat) (a : Int) (S : Sto), DrwR R S → ∃ (r : List Key) (S' : Sto), DrwR R S' ∧ r.length = m ∧ compL (oneR (PP n) (.nm 2) (.c (.bool true)) (.call 33 (.cons (.v 0) (.cons (.lst (.cons (.c (.str "a")) (.cons (.c (.str "a")) (.cons (.c (.str "b")) (.cons (.c (.str "b")) (.cons (.c (.str "tab")) (.cons (.c (.str "tab")) (.cons (.c (.str "blank")) (.cons (.c (.str "back")) (.cons (.c (.str "end")) .nil)))))))))) .nil))) [.val (.ref 1), .val (.d (.int (most : Nat))), .un]) (rngD a m) S = .ok (r.map Key.e) S' := by
    intro m
    induction m with
    | zero => intro a S D; exact ⟨[], S, D, rfl, rfl⟩
    | succ m ih =>
      intro a S D
      obtain ⟨k, S1, D1, e1⟩ := one a S D
      obtain ⟨r, S2, D2, hl, e2⟩ := ih (a + 1) S1 D1
      refine ⟨k :: r, S2, D2, by simp [hl], ?_⟩
      rw [rngD, compL, e1, bind_ok, e2, bind_ok]
      rfl
  obtain ⟨r, S2, D2, hl, el⟩ := loop v 0 S1 D1
  refine ⟨r, S2, D2, by omega, ?_⟩
  show callB (PP n) FU fn__law_row _ _ = _
  refine call_ret rfl ?_
  have hr : rngR S1 (.int 0) (.int (v : Int)) = .ok (rngD 0 v) S1 := by
    have h1 : rngOk 0 (v : Int) = true := by
      unfold rngOk
      simp
      omega
    have h2 : ((v : Int) - 0).toNat = v := by omega
    simp only [rngR, h1, if_true, h2]
  have hev := comp_st (P := PP n) (tg := .nm 2) (it := .rng (.c (.int 0)) (.call 32 (.cons (.v 0) (.cons (.bin .add (.v 1) (.c (.int 1))) .nil)))) (S := S) (by simp [ed]; exact hr) (by rw [rngD_len]; omega) el
  simp [fn__law_row, ir__law_row, Df.fn, startR]
  rw [exSs_cons]
  simp only [str_a, str_b] at hev
  simp [hev]
end FO

set_option Elab.async false
set_option linter.all false
set_option maxRecDepth 10000
set_option maxHeartbeats 1000000
namespace FO
open PySem L2
/-! ### the law's own ways to compute: plain -/
theorem pre_take {a b : Txt} : a <+: b ↔ b.take a.length = a := by
  rw [List.prefix_iff_eq_take]
  exact eq_comm
theorem pre_lt (t w : Txt) : (t.isPrefixOf w && !decide (w = t)) = (decide (t.length < w.length) && decide (w.take t.length = t)) := by
  rw [Bool.eq_iff_iff]
  simp only [Bool.and_eq_true, List.isPrefixOf_iff_prefix, Bool.not_eq_true', decide_eq_false_iff_not, decide_eq_true_eq]
  constructor
  · rintro ⟨h1, h2⟩
    refine ⟨?_, pre_take.mp h1⟩
    obtain ⟨r, rfl⟩ := h1
    cases r with
    | nil => exact absurd (by simp) h2
    | cons c r => simp
  · rintro ⟨h1, h2⟩
    refine ⟨pre_take.mpr h2, fun e => ?_⟩
    rw [e] at h1
    omega
theorem step_pre {x acc : Txt} {c : Bool} (h : acc <+: x) : (acc ++ [c] <+: x) ↔ (x.drop acc.length).take 1 = [c] := by
  obtain ⟨r, rfl⟩ := h
  rw [List.drop_left]
  cases r with
  | nil =>
    simp only [List.append_nil, List.take_nil]
    constructor
    · intro h
      have := h.length_le
      rw [List.length_append, List.length_singleton] at this
      omega
    · intro h; cases h
  | cons d r =>
    rw [List.prefix_append_right_inj]
    simp [eq_comm]
theorem com_spec (rs : List Txt) (r0 : Txt) : ∀ (l acc : Txt), acc ++ l = r0 → (∀ x ∈ rs, acc <+: x) → ∃ m, m ≤ r0.length ∧ comAux rs acc.length acc l = r0.take m ∧ (∀ x ∈ rs, r0.take m <+: x) ∧ (m < r0.length → ¬ ∀ x ∈ rs, r0.take (m + 1) <+: x)
  | [], acc, e, h => by
    rw [List.append_nil] at e
    subst e
    exact ⟨acc.length, Nat.le_refl _, by simp [comAux], by simpa using h, fun z => absurd z (Nat.lt_irrefl _)⟩
  | c :: l, acc, e, h => by
    have et : r0.take (acc.length + 1) = acc ++ [c] := by
      rw [← e, List.take_append, List.take_of_length_le (by omega)]
      simp
    unfold comAux
    by_cases hc : (rs.all fun x => decide ((x.drop acc.length).take 1 = [c])) = true
    · rw [if_pos hc]
      have h2 : ∀ x ∈ rs, acc ++ [c] <+: x := fun x hx => (step_pre (h x hx)).mpr (by simpa using List.all_eq_true.mp hc x hx)
      obtain ⟨m, m1, m2, m3, m4⟩ := com_spec rs r0 l (acc ++ [c]) (by rw [List.append_assoc]; exact e) h2
      rw [List.length_append, List.length_singleton] at m2
      exact ⟨m, m1, m2, m3, m4⟩
    · rw [if_neg hc]
      refine ⟨acc.length, by rw [← e]; simp, by rw [← e, List.take_left], by rw [← e, List.take_left]; exact h, fun _ z => hc ?_⟩
      rw [et] at z
      exact List.all_eq_true.mpr fun x hx => decide_eq_true ((step_pre (h x hx)).mp (z x hx))
/-- the last of the beginnings that all rests have -/
theorem com_last (rs : List Txt) (r0 : Txt) (h0 : rs.headD [] = r0) (hm : r0 ∈ rs) :
    (((List.range (r0.length + 1)).map fun k => r0.take k).filter fun one => decide ((rs.filter fun r => !one.isPrefixOf r) = [])).getLast? = some (com rs) := by
  obtain ⟨m, m1, m2, m3, m4⟩ := com_spec rs r0 r0 [] rfl (fun x _ => List.nil_prefix)
  have hcom : com rs = r0.take m := by unfold com; rw [h0]; exact m2
  have hp : ∀ one : Txt, decide ((rs.filter fun r => !one.isPrefixOf r) = []) = decide (∀ x ∈ rs, one <+: x) := fun one => by
    congr 1
    apply propext
    rw [List.filter_eq_nil_iff]
    constructor
    · intro h x hx
      have := h x hx
      simpa using this
    · intro h x hx
      have := h x hx
      simpa using this
  have hall : ∀ k, k ≤ r0.length → ((∀ x ∈ rs, r0.take k <+: x) ↔ k ≤ m) := fun k hk => by
    constructor
    · intro h
      by_cases c : k ≤ m
      · exact c
      · exfalso
        apply m4 (by omega)
        intro x hx
        have h1 := h x hx
        have h2 : r0.take (m + 1) <+: r0.take k := by
          rw [List.prefix_iff_eq_take]
          rw [List.take_take, List.length_take]
          congr 1
          omega
        exact h2.trans h1
    · intro h x hx
      have h2 : r0.take k <+: r0.take m := by
        rw [List.prefix_iff_eq_take]
        rw [List.take_take, List.length_take]
        congr 1
        omega
      exact h2.trans (m3 x hx)
  rw [List.filter_map]
  have hf : ((List.range (r0.length + 1)).filter ((fun one => decide ((rs.filter fun r => !one.isPrefixOf r) = [])) ∘ fun k => r0.take k)) = (List.range (r0.length + 1)).filter fun k => decide (k ≤ m) := by
    apply List.filter_congr
    intro k hk
    have hk : k < r0.length + 1 := List.mem_range.mp hk
    show decide ((rs.filter fun r => !(r0.take k).isPrefixOf r) = []) = _
    rw [hp]
    congr 1
    exact propext (hall k (by omega))
  have hr : ∀ N, m < N → ((List.range N).filter fun k => decide (k ≤ m)) = List.range (m + 1) := by
    intro N
    induction N with
    | zero => intro h; omega
    | succ N ih =>
      intro h
      rw [List.range_succ, List.filter_append]
      by_cases c : m < N
      · rw [ih c]
        have : ¬ N ≤ m := by omega
        simp [this]
      · have e : N = m := by omega
        subst e
        rw [List.filter_eq_self.mpr fun k hk => by
          have := List.mem_range.mp hk
          simp
          omega]
        simp [List.range_succ]
  rw [hf, hr _ (by omega), List.range_succ, List.map_append, List.map_cons, List.map_nil, List.getLast?_append]
  simp [hcom]
theorem short_first {rs : List Txt} (h : rs ≠ []) : (rs.filter fun r => decide (r.length = mn (rs.map List.length)))[0]? = some (short rs) := by
  rw [← List.head?_eq_getElem?, List.head?_filter]
  unfold short
  cases hf : rs.find? fun r => decide (r.length = mn (rs.map List.length)) with
  | some x => rfl
  | none =>
    exfalso
    rw [List.find?_eq_none] at hf
    have key : ∀ (r : List Nat) (x : Nat), r.foldl min x = x ∨ r.foldl min x ∈ r := by
      intro r
      induction r with
      | nil => intro x; exact .inl rfl
      | cons y r ih =>
        intro x
        rw [List.foldl_cons]
        rcases ih (min x y) with e | e
        · rw [e]
          by_cases c : x ≤ y
          · rw [Nat.min_eq_left c]; exact .inl rfl
          · rw [Nat.min_eq_right (by omega)]; exact .inr List.mem_cons_self
        · exact .inr (List.mem_cons_of_mem _ e)
    obtain ⟨y, r, rfl⟩ := List.exists_cons_of_ne_nil h
    have hm : mn ((y :: r).map List.length) ∈ (y :: r).map List.length := by
      show (r.map List.length).foldl min y.length ∈ y.length :: r.map List.length
      rcases key (r.map List.length) y.length with e | e
      · rw [e]; exact List.mem_cons_self
      · exact List.mem_cons_of_mem _ e
    obtain ⟨z, hz, e⟩ := List.mem_map.mp hm
    exact hf z hz (by simpa using e)
end FO

set_option Elab.async false
set_option linter.all false
set_option maxRecDepth 100000
set_option maxHeartbeats 1000000
namespace FO
open PySem L2
/-! ### the law's own defs -/
theorem fit_pre (o : List Txt) (t : Txt) : o.filter (fun w => t.isPrefixOf w && !decide (w = t)) = fit o t := by
  unfold fit
  apply List.filter_congr
  intro w _
  exact pre_lt t w
theorem e_law_fit {n : Nat} (hn : 1 ≤ n) {S : Sto} (o : List Txt) (t : Txt) (ho : o.length ≤ 100) (hw : ∀ w ∈ o, w.length ≤ 100) (ht : t.length ≤ 100) : FF n 39 [.d (.tuple (o.map tx)), .d (tx t)] S = .ok (.d (.list ((rests o t).map tx))) S := by
  obtain ⟨n, rfl, hm⟩ := pred_of hn
  show callB (PP n) FU fn__law_fit _ _ = _
  refine call_ret rfl ?_
  have ht1 : t.length ≤ 1000000 := by omega
  simp [fn__law_fit, ir__law_fit, Df.fn, startR, exSs_cons]
  rw [comp_if o tx (fun w => t.isPrefixOf w && !decide (w = t)) (fun w => tx (w.drop t.length))]
  · rw [fit_pre]
    simp [rests]
  · simp [itemsD]
  · omega
  · intro x hx
    have hx1 : x.length ≤ 1000000 := by have := hw x hx; omega
    refine ⟨_, rfl, ?_, fun _ => ?_⟩
    · cases h : t.isPrefixOf x <;> simp [bmOk, h]
    · simp [hx1, ht1, cut_from]
theorem rng_map (a : Int) : ∀ n : Nat, rngD a n = (List.range n).map fun k => .int (a + (k : Nat))
  | 0 => rfl
  | n + 1 => by
    rw [rngD, rng_map (a + 1) n, List.range_succ_eq_map, List.map_cons, List.map_map]
    simp
    intro k _
    omega
theorem rng_to (S : Sto) (k : Nat) (h : k ≤ 1000) : rngR S (.int 0) (.int (k : Nat)) = .ok ((List.range k).map fun (j : Nat) => PyData.int j) S := by
  have h1 : rngOk 0 (k : Int) = true := by
    unfold rngOk
    simp
    omega
  have h2 : ((k : Int) - 0).toNat = k := by omega
  have h3 := rng_map 0 k
  have h4 : ((List.range k).map fun (j : Nat) => PyData.int (0 + (j : Nat))) = (List.range k).map fun (j : Nat) => PyData.int j := by
    apply List.map_congr_left
    intro j _
    rw [Int.zero_add]
  simp only [rngR, h1, if_true, h2]
  rw [h3, h4]
theorem law_com (n : Nat) (S : Sto) (v0 v1 : W) (rs : List Txt) (r0 : Txt) (rr : List Txt) (e0 : rs = r0 :: rr) (hr0 : r0.length ≤ 3) (hl : rs.length ≤ 100) :
    exSs (PP n) FU (.cons (.asg (.nm 5) (.comp (.nm 6) (.rng (.c (.int 0)) (.bin .add (.bi .len (.ix (.v 2) (.c (.int 0)))) (.c (.int 1)))) (.c (.bool true)) (.sl (.ix (.v 2) (.c (.int 0))) (.c .none) (.v 6)))) (.cons (.ret (.ix (.comp (.nm 7) (.e (.v 5)) (.cmp .eq (.comp (.nm 4) (.e (.v 2)) (.not (.bm .startswith (.v 4) (.v 7))) (.v 4)) (.lst .nil)) (.v 7)) (.neg (.c (.int 1))))) .nil))
      [.val v0, .val v1, .val (.d (.list (rs.map tx))), .un, .un, .un, .un, .un] S = .ret (.d (tx (com rs))) S := by
  have hr1 : r0.length ≤ 1000000 := by omega
  have hx0 : (rs.map tx)[0]? = some (tx r0) := by rw [e0]; rfl
  have hb : ev (PP n) (.bin .add (.bi .len (.ix (.v 2) (.c (.int 0)))) (.c (.int 1))) [.val v0, .val v1, .val (.d (.list (rs.map tx))), .un, .un, .un, .un, .un] S = .ok (.d (.int ((r0.length + 1 : Nat) : Int))) S := by
    simp [hx0, hr1]
  have hr : evi (PP n) (.rng (.c (.int 0)) (.bin .add (.bi .len (.ix (.v 2) (.c (.int 0)))) (.c (.int 1)))) [.val v0, .val v1, .val (.d (.list (rs.map tx))), .un, .un, .un, .un, .un] S = .ok ((List.range (r0.length + 1)).map fun (j : Nat) => PyData.int j) S := by
    rw [evi_rng, ev_c, bind_ok, hb, bind_ok]
    exact rng_to S _ (by omega)
  have c1 := comp_all (P := PP n) (tg := .nm 6) (it := .rng (.c (.int 0)) (.bin .add (.bi .len (.ix (.v 2) (.c (.int 0)))) (.c (.int 1)))) (elt := .sl (.ix (.v 2) (.c (.int 0))) (.c .none) (.v 6)) (ρ := [.val v0, .val v1, .val (.d (.list (rs.map tx))), .un, .un, .un, .un, .un]) (S := S)
    (List.range (r0.length + 1)) (fun (k : Nat) => .int k) (fun k => tx (r0.take k)) hr (by rw [List.length_range]; omega) (by
      intro k hk
      refine ⟨_, rfl, ?_⟩
      simp [hx0, hr1, cut_to])
  have em : ((List.range (r0.length + 1)).map fun k => tx (r0.take k)) = ((List.range (r0.length + 1)).map fun k => r0.take k).map tx := by rw [List.map_map]; rfl
  rw [em] at c1
  have hll := com_last rs r0 (by rw [e0]; rfl) (by rw [e0]; exact List.mem_cons_self)
  have hlen : ((List.range (r0.length + 1)).map fun k => r0.take k).length ≤ 1000000 := by rw [List.length_map, List.length_range]; omega
  generalize ((List.range (r0.length + 1)).map fun k => r0.take k) = able at c1 hll hlen
  have c2 := comp_if (P := PP n) (tg := .nm 7) (it := .e (.v 5)) (test := .cmp .eq (.comp (.nm 4) (.e (.v 2)) (.not (.bm .startswith (.v 4) (.v 7))) (.v 4)) (.lst .nil)) (elt := .v 7) (ρ := [.val v0, .val v1, .val (.d (.list (rs.map tx))), .un, .un, .val (.d (.list (able.map tx))), .un, .un]) (S := S)
    able tx (fun one => decide ((rs.filter fun r => !one.isPrefixOf r) = [])) tx (by simp [itemsD]) hlen (by
      intro x hx
      refine ⟨_, rfl, ?_, fun _ => by simp⟩
      simp only [ev_cmp, argm_comp]
      rw [comp_if rs tx (fun r => !x.isPrefixOf r) tx ?cc (by omega) ?cd]
      case cc => simp [itemsD]
      case cd =>
        intro y hy
        exact ⟨_, rfl, by simp [bmOk], fun _ => by simp⟩
      simp [d_isnil tx _ 0 (shp_tx 0)])
  generalize (able.filter fun one => decide ((rs.filter fun r => !one.isPrefixOf r) = [])) = good at c2 hll
  have hlast : ixD (.list (good.map tx)) (.int (-1)) = some (tx (com rs)) := by
    show atI _ _ = _
    rw [at_last _ (by intro e; have : good = [] := by simpa using e
                      rw [this] at hll; cases hll), List.getLast?_map, hll]
    rfl
  rw [exSs_cons]
  simp only [exS_asg, frzE_comp, c1, of_ok]
  simp only [asgW_nm]
  simp
  rw [exSs_cons]
  simp only [exS_ret, frzE_ix, ev_ix, ixW_dd, argm_comp, c2, bind_ok, ev_neg, ev_c, hlast, lift_some, Option.map_some, of_ok, then_ret]
theorem e_law_offer {n : Nat} (hn : 2 ≤ n) {S : Sto} (w : Way) (s : Stt) (h : Wf s) : FF n 40 [.d w.e, .d s.e] S = .ok (.d (tx (offer w s))) S := by
  obtain ⟨n, rfl, hm⟩ := pred_of hn
  show callB (PP n) FU fn__law_offer _ _ = _
  refine call_ret rfl ?_
  have h1 := h.t
  have h2 := h.o
  have ht : s.t.length ≤ 1000000 := by omega
  have ef := e_law_fit hm (S := S) s.o s.t (by omega) (fun w hw => by have := h.w w hw; omega) (by omega)
  have hl := rests_many s.o s.t
  simp [fn__law_offer, ir__law_offer, Df.fn, startR]
  rw [exSs_cons]
  simp [ef]
  rw [exSs_cons, iff_b (t := quietB w s) (S1 := S) ?c1]
  case c1 =>
    have e0 : decide (rests s.o s.t = []) = decide (fit s.o s.t = []) := by simp [rests]
    unfold quietB
    cases hq : s.q <;> by_cases h : (s.t.length : Int) < siI w.si <;> simp [ht, d_isnil tx _ 0 (shp_tx 0), h, e0, hq]
  obtain ⟨qb, hqb⟩ : ∃ b, quietB w s = b := ⟨_, rfl⟩
  unfold offer
  rw [hqb]
  cases qb with
  | true => simp [exSs_cons]
  | false =>
    simp
    have hne : fit s.o s.t ≠ [] := by
      intro e
      unfold quietB at hqb
      rw [e] at hqb
      simp at hqb
    have hrs : rests s.o s.t ≠ [] := by unfold rests; simpa using hne
    have hrl : ∀ x ∈ rests s.o s.t, x.length ≤ 1000000 := fun x hx => by have := rests_len h.w hx; omega
    rw [exSs_cons]
    cases hc : w.ch with
    | short =>
      simp [hc]
      rw [exSs_cons]
      simp
      rw [comp_all (rests s.o s.t) tx (fun x => .int (x.length : Nat)) ?c4 (by omega) ?c5]
      case c4 => simp [itemsD]
      case c5 =>
        intro x hx
        exact ⟨_, rfl, by simp [hrl x hx]⟩
      simp [d_min List.length _ hrs]
      rw [exSs_cons]
      simp
      rw [comp_if (rests s.o s.t) tx (fun x => decide (x.length = mn ((rests s.o s.t).map List.length))) tx ?c6 (by omega) ?c7]
      case c6 => simp [itemsD]
      case c7 =>
        intro x hx
        refine ⟨_, rfl, ?_, fun _ => by simp⟩
        simp [hrl x hx]
        omega
      have hsf := short_first hrs
      simp [hsf]
    | first =>
      simp [hc]
      rw [exSs_cons]
      obtain ⟨r0, rr, e0⟩ := List.exists_cons_of_ne_nil hrs
      simp [hc, exSs_cons, e0]
    | common =>
      simp [hc]
      rw [exSs_cons]
      obtain ⟨r0, rr, e0⟩ := List.exists_cons_of_ne_nil hrs
      have hr0 : r0.length ≤ 3 := rests_len h.w (t := s.t) (by rw [e0]; exact List.mem_cons_self)
      have hr1 : r0.length ≤ 1000000 := by omega
      have hx0 : ((rests s.o s.t).map tx)[0]? = some (tx r0) := by rw [e0]; rfl
      simp [hc]
      exact law_com n S _ _ _ r0 rr e0 hr0 (by omega)
end FO

set_option Elab.async false
set_option linter.all false
set_option maxRecDepth 10000
set_option maxHeartbeats 1000000
namespace FO
open PySem L2
theorem rests_back (o : List Txt) (b : Txt) : (rests o b).map (fun x => b ++ x) = fit o b := by
  unfold rests
  rw [List.map_map]
  conv => rhs; rw [← List.map_id (fit o b)]
  apply List.map_congr_left
  intro w hw
  obtain ⟨_, _, h3⟩ := fit_mem hw
  show b ++ w.drop b.length = w
  conv => lhs; lhs; rw [← h3]
  exact List.take_append_drop _ _
theorem twice_at {ws : List Txt} {j : Nat} (hj : j < ws.length) : (ws ++ ws)[j + 1]? = ws[(j + 1) % ws.length]? := by
  by_cases c : j + 1 < ws.length
  · rw [List.getElem?_append_left c, Nat.mod_eq_of_lt c]
  · have e : j + 1 = ws.length := by omega
    rw [e, List.getElem?_append_right (Nat.le_refl _), Nat.sub_self, Nat.mod_self]
theorem findIdx_app {ws us : List Txt} {p : Txt → Bool} {j : Nat} (h : ws.findIdx? p = some j) : (ws ++ us).findIdx? p = some j := by
  rw [List.findIdx?_append, h]; rfl
theorem e_law_tab {n : Nat} (hn : 3 ≤ n) {S : Sto} (w : Way) (s : Stt) (h : Wf s) (hb : s.b ≠ [] → fit s.o s.b ≠ []) : FF n 41 [.d w.e, .d s.e] S = .ok (.d (pressTab w s).e) S := by
  obtain ⟨n, rfl, hm⟩ := pred_of hn
  show callB (PP n) FU fn__law_tab _ _ = _
  refine call_ret rfl ?_
  have h1 := h.t
  have h2 := h.o
  have ht : s.t.length ≤ 1000000 := by omega
  have hol := offer_len (w := w) h
  have eo := e_law_offer hm (S := S) w s h
  simp [fn__law_tab, ir__law_tab, Df.fn, startR]
  rw [exSs_cons]
  simp
  rw [exSs_cons]
  simp [eo]
  rw [exSs_cons]
  unfold pressTab
  by_cases c : offer w s = []
  · simp [c]
    rw [exSs_cons]
    by_cases c2 : w.ag = .next ∧ s.b ≠ []
    · have hne := hb c2.2
      have ef := e_law_fit (n := n) (by omega) (S := S) s.o s.b (by omega) (fun w hw => by have := h.w w hw; omega) (by have := h.b; omega)
      have hfl : 0 < (fit s.o s.b).length := List.length_pos_iff.mpr hne
      have hfl3 := fit_len s.o s.b
      have hstay : ¬ w.ag = .stay := by rw [c2.1]; decide
      simp [c2.2, hstay]
      rw [exSs_cons]
      simp only [exS_asg, frzE_comp]
      rw [comp_all (rests s.o s.b) tx (fun x => tx (s.b ++ x)) ?d1 (by have := rests_many s.o s.b; omega) ?d2]
      case d1 => simp [ef]
      case d2 =>
        intro x hx
        have hx1 : s.b.length + x.length ≤ 1000000 := by have := rests_len h.w hx; have := h.b; omega
        exact ⟨_, rfl, by simp [hx1]⟩
      have ew : ((rests s.o s.b).map fun x => tx (s.b ++ x)) = (fit s.o s.b).map tx := by
        rw [← rests_back, List.map_map]; rfl
      rw [ew]
      have hz : (fit s.o s.b).length + (fit s.o s.b).length ≤ 1000000 := by omega
      simp
      rw [exSs_cons]
      simp [binD, hz]
      rw [exSs_cons]
      by_cases c3 : s.t ∈ fit s.o s.b
      · obtain ⟨j, j1, j2⟩ := findIdx_mem c3
        have hix : bmD .index (.list ((fit s.o s.b).map tx ++ (fit s.o s.b).map tx)) (tx s.t) = some (.int (j : Nat)) := by
          rw [← List.map_append]
          simp only [bmD, (shp_tx 1 _).ok (by decide), (shp_txs _).ok (by decide), Bool.and_self, if_true]
          rw [idx_find _ _ (fun r => decide (r = s.t)) fun x => eqv_tx _ _, findIdx_app j1]
          rfl
        have hlt : (j + 1) % (fit s.o s.b).length < (fit s.o s.b).length := Nat.mod_lt _ hfl
        obtain ⟨x, hx⟩ : ∃ x, (fit s.o s.b)[(j + 1) % (fit s.o s.b).length]? = some x := ⟨_, List.getElem?_eq_getElem hlt⟩
        have ec : cyc (fit s.o s.b) s.t = x := by
          unfold cyc
          rw [if_pos c3, j1, Option.getD_some, hx]; rfl
        rw [ec]
        have hi2 : ixD (.list ((fit s.o s.b).map tx ++ (fit s.o s.b).map tx)) (.int ((j : Int) + 1)) = some (tx x) := by
          rw [← List.map_append]
          show atI _ ((j + 1 : Nat) : Int) = _
          rw [at_nat, List.getElem?_map, twice_at j2, hx]; rfl
        simp only [exS_ret, frzE_tup, ev_tup, evs_cons, ev_ife, ev_cmp, argm_v]
        simp [c3, bmOk, hix, hi2, c2.1, Stt.e, qi]
      · obtain ⟨x, hx⟩ : ∃ x, (fit s.o s.b)[0]? = some x := ⟨_, List.getElem?_eq_getElem hfl⟩
        have ec : cyc (fit s.o s.b) s.t = x := by
          unfold cyc
          rw [if_neg c3, Nat.zero_mod, hx]; rfl
        rw [ec]
        simp [c3, hx, c2.1, Stt.e, qi]
    · rw [if_neg c2, iff_b (t := true) (S1 := S) ?c4]
      case c4 =>
        by_cases c4 : s.b = []
        · simp [c4]
        · have : w.ag = .stay := by
            cases ha : w.ag with
            | next => exact absurd ⟨ha, c4⟩ c2
            | stay => rfl
          simp [c4, this]
      simp [exSs_cons, Stt.e]
  · have hz : s.t.length + (offer w s).length ≤ 1000000 := by omega
    simp [c, exSs_cons, hz, Stt.e, qi]
theorem key_ab (k : Key) : cmpD .in_ k.e (.tuple [tx [false], tx [true]]) = some (.bool (decide (k = .a ∨ k = .b))) := by
  cases k <;> kernel_rfl
theorem bk_ob (b : Bk) : cmpD .in_ (.str b.s) (.tuple [.str (Str.ofString "offer"), .str (Str.ofString "both")]) = some (.bool (!decide (b = .letter))) := by
  cases b <;> kernel_rfl
theorem e_law_step {n : Nat} (hn : 4 ≤ n) {S : Sto} (w : Way) (s : Stt) (k : Key) (h : Wf s) (hb : s.b ≠ [] → fit s.o s.b ≠ []) : FF n 42 [.d w.e, .d s.e, .d k.e] S = .ok (.d (stepP w s k).e) S := by
  obtain ⟨n, rfl, hm⟩ := pred_of hn
  show callB (PP n) FU fn__law_step _ _ = _
  refine call_ret rfl ?_
  have h1 := h.t
  have h2 := h.o
  have ht1 : s.t.length ≤ 1000000 := by omega
  have hol := offer_len (w := w) h
  have hz : s.t.length + (offer w s).length ≤ 1000000 := by omega
  have e1 := e_law_tab hm (S := S) w s h hb
  have eo := e_law_offer (n := n) (by omega) (S := S) w s h
  have kab := key_ab k
  simp [fn__law_step, ir__law_step, Df.fn, startR]
  rw [exSs_cons]
  simp
  -- a letter
  have letter : ∀ c : Bool, k.e = tx [c] → stepP w s k = typed s c → decide (k = .a ∨ k = .b) = true → ∀ r : Sms, exSs (PP n) FU (.cons (.iff (.cmp .in_ (.v 2) (.tup (.cons (.c (tx [false])) (.cons (.c (tx [true])) .nil)))) (.cons (.ret (.ife (.cmp .gt (.bi .len (.v 3)) (.c (.int 3))) (.tup (.cons (.v 3) (.cons (.v 4) (.cons (.v 5) (.cons (.v 6) (.cons (.c (tx [])) .nil)))))) (.tup (.cons (.bin .add (.v 3) (.v 2)) (.cons (.c (tx [])) (.cons (.c (.int 0)) (.cons (.v 6) (.cons (.c (tx [])) .nil)))))))) .nil) .nil) r) [.val (.d w.e), .val (.d s.e), .val (.d k.e), .val (.d (tx s.t)), .val (.d (tx s.b)), .val (.d (.int (qi s.q))), .val (.d (.tuple (s.o.map tx))), .val (.d (tx s.p)), .un, .un, .un, .un] S = .ret (.d (stepP w s k).e) S := by
    intro c ek es hk r
    rw [exSs_cons, iff_b (t := true) (S1 := S) ?c1]
    case c1 => simp [kab, hk]
    rw [if_pos rfl, exSs_cons, es]
    unfold typed
    by_cases c4 : s.t.length = 4
    · simp [c4, Stt.e]
    · have hz2 : s.t.length + 1 ≤ 1000000 := by omega
      have : ¬ (3 < (s.t.length : Int)) := by omega
      simp [c4, this, ht1, ek, hz2, Stt.e, qi]
  have other : k ≠ .a → k ≠ .b → ∀ (a r : Sms), exSs (PP n) FU (.cons (.iff (.cmp .in_ (.v 2) (.tup (.cons (.c (tx [false])) (.cons (.c (tx [true])) .nil)))) a .nil) r) [.val (.d w.e), .val (.d s.e), .val (.d k.e), .val (.d (tx s.t)), .val (.d (tx s.b)), .val (.d (.int (qi s.q))), .val (.d (.tuple (s.o.map tx))), .val (.d (tx s.p)), .un, .un, .un, .un] S = exSs (PP n) FU r [.val (.d w.e), .val (.d s.e), .val (.d k.e), .val (.d (tx s.t)), .val (.d (tx s.b)), .val (.d (.int (qi s.q))), .val (.d (.tuple (s.o.map tx))), .val (.d (tx s.p)), .un, .un, .un, .un] S := by
    intro ha hb a r
    rw [exSs_cons, iff_b (t := false) (S1 := S) ?c1]
    case c1 => simp [kab, ha, hb]
    simp
  -- blank and end
  have put : ∀ (c : Bool), k ≠ .a → k ≠ .b → k ≠ .tab → k ≠ .back → (decide (w.ac = .always) || (decide (w.ac = .blank) && decide (k = .blank))) = c → stepP w s k = pressEnd w s c →
      exSs (PP n) FU (.cons (.asg (.nm 10) (.ife (.or (.cmp .eq (.ix (.v 0) (.c (.int 2))) (.c (.str "always"))) (.and (.cmp .eq (.ix (.v 0) (.c (.int 2))) (.c (.str "blank"))) (.cmp .eq (.v 2) (.c (.str "blank"))))) (.bin .add (.v 3) (.v 8)) (.v 3))) (.cons (.iff (.and (.cmp .in_ (.v 10) (.v 6)) (.cmp .eq (.ix (.v 0) (.c (.int 5))) (.c (.int 1)))) (.cons (.asg (.nm 6) (.bi .tuple (.bin .add (.lst (.cons (.v 10) .nil)) (.comp (.nm 11) (.e (.v 6)) (.cmp .ne (.v 11) (.v 10)) (.v 11))))) .nil) .nil) (.cons (.ret (.tup (.cons (.c (tx [])) (.cons (.c (tx [])) (.cons (.c (.int 0)) (.cons (.v 6) (.cons (.v 10) .nil))))))) .nil))) [.val (.d w.e), .val (.d s.e), .val (.d k.e), .val (.d (tx s.t)), .val (.d (tx s.b)), .val (.d (.int (qi s.q))), .val (.d (.tuple (s.o.map tx))), .val (.d (tx s.p)), .val (.d (tx (offer w s))), .un, .un, .un] S = .ret (.d (stepP w s k).e) S := by
    intro c _ _ _ _ hc es
    rw [es]
    unfold pressEnd
    have ek : ∀ x : Str, cmpD .eq k.e (.str x) = some (.bool (decide (k.s = x))) := fun x => by simp [Key.e]
    obtain ⟨t, ht⟩ : ∃ t, t = (if c then s.t ++ offer w s else s.t) := ⟨_, rfl⟩
    have hs1 : ev (PP n) (.ife (.or (.cmp .eq (.ix (.v 0) (.c (.int 2))) (.c (.str "always"))) (.and (.cmp .eq (.ix (.v 0) (.c (.int 2))) (.c (.str "blank"))) (.cmp .eq (.v 2) (.c (.str "blank"))))) (.bin .add (.v 3) (.v 8)) (.v 3)) [.val (.d w.e), .val (.d s.e), .val (.d k.e), .val (.d (tx s.t)), .val (.d (tx s.b)), .val (.d (.int (qi s.q))), .val (.d (.tuple (s.o.map tx))), .val (.d (tx s.p)), .val (.d (tx (offer w s))), .un, .un, .un] S = .ok (.d (tx t)) S := by
      rw [ht, ← hc]
      by_cases c1 : w.ac = .always
      · simp [c1, hz]
      · by_cases c2 : w.ac = .blank
        · by_cases c3 : k = .blank
          · have ek2 := ek (Str.ofString "blank")
            rw [c3] at ek2 ⊢
            simp [c1, c2, hz, ek2]
          · simp [c1, c2, c3, hz, ek]
        · simp [c1, c2]
    rw [← ht]
    rw [exSs_cons]
    simp only [exS_asg, frzE_ife, hs1, of_ok]
    simp
    rw [exSs_cons, iff_b (t := decide (t ∈ s.o) && w.le) (S1 := S) ?c1]
    case c1 => by_cases hm : t ∈ s.o <;> cases hl : w.le <;> simp [hl, hm]
    by_cases c : w.le = true ∧ t ∈ s.o
    · simp [c.1, c.2, exSs_cons]
      rw [comp_if s.o tx (fun x => !decide (x = t)) tx ?c2 (by omega) ?c3]
      case c2 => simp [itemsD]
      case c3 =>
        intro x hx
        exact ⟨_, rfl, by simp, fun _ => by simp⟩
      have hfl := List.length_filter_le (fun x => !decide (x = t)) s.o
      have hle : 1 + (s.o.filter fun x => !decide (x = t)).length ≤ 1000000 := by omega
      simp [biD, binD, learn, c.1, c.2, Stt.e, qi, hle]
    · have c' : (decide (t ∈ s.o) && w.le) = false := by
        cases hl : w.le <;> simp_all
      simp [c', exSs_cons, Stt.e, qi, learn, c]
  cases k with
  | a => exact letter false rfl rfl rfl _
  | b => exact letter true rfl rfl rfl _
  | tab =>
    rw [other (by decide) (by decide), exSs_cons]
    simp [Key.e, exSs_cons, e1, stepP]
  | back =>
    rw [other (by decide) (by decide), exSs_cons]
    simp [Key.e]
    rw [exSs_cons]
    simp [eo]
    rw [exSs_cons]
    simp
    obtain ⟨t, ht⟩ : ∃ t, t = (if offer w s = [] ∨ w.bk ≠ .offer then s.t.dropLast else s.t) := ⟨_, rfl⟩
    show _ = Fl.ret (W.d (pressBack w s).e) S
    unfold pressBack
    rw [← ht, exSs_cons]
    have hs1 : ev (PP n) (.ife (.and (.cmp .ne (.v 8) (.c (tx []))) (.cmp .eq (.ix (.v 0) (.c (.int 4))) (.c (.str "offer")))) (.v 3) (.sl (.v 3) (.c .none) (.neg (.c (.int 1))))) [.val (.d w.e), .val (.d s.e), .val (.d (.str (Key.back.s))), .val (.d (tx s.t)), .val (.d (tx s.b)), .val (.d (.int (qi s.q))), .val (.d (.tuple (s.o.map tx))), .val (.d (tx s.p)), .val (.d (tx (offer w s))), .un, .un, .un] S = .ok (.d (tx t)) S := by
      rw [ht]
      by_cases c : offer w s = [] <;> by_cases c2 : w.bk = .offer <;> simp [c, c2, ht1, cut_last]
    simp only [exS_asg, frzE_ife, hs1, of_ok]
    simp
    rw [exSs_cons]
    by_cases c : w.bk = .letter <;> by_cases c2 : t = [] <;> simp [c, c2, bk_ob, Stt.e, qi]
  | blank =>
    rw [other (by decide) (by decide), exSs_cons]
    have := put (!decide (w.ac = .tab)) (by decide) (by decide) (by decide) (by decide) (by cases w.ac <;> rfl) rfl
    simp [Key.e] at this ⊢
    rw [exSs_cons]
    simp [eo]
    rw [exSs_cons]
    simp
    exact this
  | fin =>
    rw [other (by decide) (by decide), exSs_cons]
    have := put (decide (w.ac = .always)) (by decide) (by decide) (by decide) (by decide) (by cases w.ac <;> rfl) rfl
    simp [Key.e] at this ⊢
    rw [exSs_cons]
    simp [eo]
    rw [exSs_cons]
    simp
    exact this
theorem e_law_start_state {n : Nat} (hn : 1 ≤ n) {S : Sto} (ws : List Txt) : FF n 43 [.d (.list (ws.map tx))] S = .ok (.d (begin ws).e) S := by
  obtain ⟨n, rfl, hm⟩ := pred_of hn
  show callB (PP n) FU fn__law_start_state _ _ = _
  refine call_ret rfl ?_
  simp [fn__law_start_state, ir__law_start_state, Df.fn, startR, exSs_cons, biD, begin, Stt.e, qi]
theorem e_law_view {n : Nat} (hn : 3 ≤ n) {S : Sto} (w : Way) (s : Stt) (g : Bool) (h : Wf s) : FF n 45 [.d w.e, .d s.e, .d (.int (qi g))] S = .ok (.d (viewE w s g)) S := by
  obtain ⟨n, rfl, hm⟩ := pred_of hn
  show callB (PP n) FU fn__law_view _ _ = _
  refine call_ret rfl ?_
  have eo := e_law_offer hm (S := S) w s h
  cases g <;> simp [fn__law_view, ir__law_view, Df.fn, startR, exSs_cons, viewE, eo]
theorem e_law_states {n : Nat} (hn : 5 ≤ n) {S : Sto} (w : Way) (ws : List Txt) (r : List Key) (hw : Words ws) (hr : r.length ≤ 1000) : FF n 44 [.d w.e, .d (.list (ws.map tx)), .d (.list (r.map Key.e))] S = .ok (.d (.list ((sts w (begin ws) r).map Stt.e))) S := by
  obtain ⟨n, rfl, hm⟩ := pred_of hn
  show callB (PP n) FU fn__law_states _ _ = _
  refine call_ret rfl ?_
  have turn : ∀ (acc : List Stt) (s : Stt) (k : Key) (x4 : Sl), Gs w ws s → acc.length + 1 < 1000000 → loopB (PP n) FU (.nm 4) lb__law_states_1 k.e [.val (.d w.e), .val (.d (.list (ws.map tx))), .val (.d (.list (r.map Key.e))), .own ((acc ++ [s]).map Stt.e), x4] S =
      .next [.val (.d w.e), .val (.d (.list (ws.map tx))), .val (.d (.list (r.map Key.e))), .own (((acc ++ [s]) ++ [stepP w s k]).map Stt.e), .val (.d k.e)] S := by
    intro acc s k x4 g hl
    have e := e_law_step hm (S := S) w s k (g.wf hw) g.fb
    have hlast : ixD (.list ((acc ++ [s]).map Stt.e)) (.int (-1)) = some s.e := by
      show atI _ _ = _
      rw [at_last _ (by simp), List.getLast?_map]
      simp
    simp only [loopB]
    simp only [List.map_append, List.map_cons, List.map_nil] at hlast
    simp [lb__law_states_1, exSs_cons, hlast, e, hl]
  have loop : ∀ (l : List Key) (acc : List Stt) (s : Stt) (x4 : Sl), Gs w ws s → acc.length + l.length < 2000 → (forL (loopB (PP n) FU (.nm 4) lb__law_states_1) (l.map Key.e) [.val (.d w.e), .val (.d (.list (ws.map tx))), .val (.d (.list (r.map Key.e))), .own ((acc ++ [s]).map Stt.e), x4] S).then
      (fun ρ' S' => exSs (PP n) FU (.cons (.ret (.v 3)) .nil) ρ' S') = .ret (.d (.list ((acc ++ sts w s l).map Stt.e))) S := by
    intro l
    induction l with
    | nil =>
      intro acc s x4 g _
      simp [forL, exSs_cons, sts]
    | cons k l ih =>
      intro acc s x4 g hl
      rw [List.length_cons] at hl
      rw [List.map_cons, forL, turn acc s k x4 g (by omega), then_next, ih (acc ++ [s]) (stepP w s k) _ (gs_step hw g k) (by simp; omega)]
      simp [sts]
  have eb := e_law_start_state (n := n) (by omega) (S := S) ws
  simp [fn__law_states, ir__law_states, Df.fn, startR]
  rw [exSs_cons]
  simp [eb]
  rw [exSs_cons]
  simp
  have := loop r [] (begin ws) .un (gs_begin w ws) (by simp; omega)
  simp at this
  exact this
end FO

set_option Elab.async false
set_option linter.all false
set_option maxRecDepth 10000
set_option maxHeartbeats 1000000
namespace FO
open PySem L2
/-! ### a block, statement by statement -/
def sdrop : Nat → Sms → Sms
  | 0, c => c
  | _ + 1, .nil => .nil
  | n + 1, .cons _ r => sdrop n r
def snth : Nat → Sms → Option Sm
  | _, .nil => none
  | 0, .cons s _ => some s
  | n + 1, .cons _ r => snth n r
theorem snth_drop : ∀ {i : Nat} {c : Sms} {s : Sm}, snth i c = some s → sdrop i c = .cons s (sdrop (i + 1) c)
  | 0, .nil, _, h => by cases h
  | 0, .cons s r, _, h => by cases h; rfl
  | i + 1, .nil, _, h => by cases h
  | i + 1, .cons s r, _, h => snth_drop (i := i) (c := r) h
section
variable {P : Pg} {fu : Nat} {ρ : Rho} {S : Sto}
theorem ex_at (i : Nat) {c : Sms} {s : Sm} (h : snth i c = some s) : exSs P fu (sdrop i c) ρ S = (exS P fu s ρ S).then fun ρ' S' => exSs P fu (sdrop (i + 1) c) ρ' S' := by
  rw [snth_drop h, exSs_cons]
theorem ex_next (i : Nat) {c : Sms} {s : Sm} {ρ' : Rho} {S' : Sto} (h : snth i c = some s) (e : exS P fu s ρ S = .next ρ' S') : exSs P fu (sdrop i c) ρ S = exSs P fu (sdrop (i + 1) c) ρ' S' := by
  rw [ex_at i h, e]; rfl
theorem ex_ret (i : Nat) {c : Sms} {s : Sm} {w : W} {S' : Sto} (h : snth i c = some s) (e : exS P fu s ρ S = .ret w S') : exSs P fu (sdrop i c) ρ S = .ret w S' := by
  rw [ex_at i h, e]; rfl
theorem ex_end (i : Nat) {c : Sms} (h : sdrop i c = .nil) : exSs P fu (sdrop i c) ρ S = .next ρ S := by
  rw [h, exSs_nil]
/-- a test that is false, with nothing else -/
theorem ex_skip (i : Nat) {c : Sms} {t : E} {a : Sms} {S' : Sto} (h : snth i c = some (.iff t a .nil)) (e : ev P t ρ S = .ok (.d (.bool false)) S') : exSs P fu (sdrop i c) ρ S = exSs P fu (sdrop (i + 1) c) ρ S' := by
  refine ex_next i h ?_
  rw [iff_b e]
  simp
theorem or_ff {a b : E} {S1 S2 : Sto} (h1 : ev P a ρ S = .ok (.d (.bool false)) S1) (h2 : ev P b ρ S1 = .ok (.d (.bool false)) S2) : ev P (.or a b) ρ S = .ok (.d (.bool false)) S2 := by
  rw [ev_or, h1, truth_ok, if_neg Bool.false_ne_true, h2, truth_ok]
theorem and_f {a b : E} {S1 : Sto} (h1 : ev P a ρ S = .ok (.d (.bool false)) S1) : ev P (.and a b) ρ S = .ok (.d (.bool false)) S1 := by
  rw [ev_and, h1, truth_ok, if_neg Bool.false_ne_true]
theorem and_t {a b : E} {k : Bool} {S1 S2 : Sto} (h1 : ev P a ρ S = .ok (.d (.bool true)) S1) (h2 : ev P b ρ S1 = .ok (.d (.bool k)) S2) : ev P (.and a b) ρ S = .ok (.d (.bool k)) S2 := by
  rw [ev_and, h1, truth_ok, if_pos rfl, h2, truth_ok]
theorem or_f {a b : E} {k : Bool} {S1 S2 : Sto} (h1 : ev P a ρ S = .ok (.d (.bool false)) S1) (h2 : ev P b ρ S1 = .ok (.d (.bool k)) S2) : ev P (.or a b) ρ S = .ok (.d (.bool k)) S2 := by
  rw [ev_or, h1, truth_ok, if_neg Bool.false_ne_true, h2, truth_ok]
theorem or_t {a b : E} {S1 : Sto} (h1 : ev P a ρ S = .ok (.d (.bool true)) S1) : ev P (.or a b) ρ S = .ok (.d (.bool true)) S1 := by
  rw [ev_or, h1, truth_ok, if_pos rfl]
theorem not_b {a : E} {k : Bool} {S1 : Sto} (h1 : ev P a ρ S = .ok (.d (.bool k)) S1) : ev P (.not a) ρ S = .ok (.d (.bool !k)) S1 := by
  rw [ev_not, h1, truth_ok]
theorem cmp_of {o : CmpO} {a b : E} {x y r : PyData} {S1 S2 : Sto} (ha : argm (ev P a ρ S) a ρ S = .ok (.d x) S1) (hb : argm (ev P b ρ S1) b ρ S1 = .ok (.d y) S2) (h : cmpD o x y = some r) : ev P (.cmp o a b) ρ S = .ok (.d r) S2 := by
  rw [ev_cmp, ha, bind_ok, hb, bind_ok, cmpW_dd, h]
  rfl
theorem rng_of {a b : E} {x y : PyData} {S1 S2 : Sto} {R : Res (List PyData)} (ha : ev P a ρ S = .ok (.d x) S1) (hb : ev P b ρ S1 = .ok (.d y) S2) (h : rngR S2 x y = R) : evi P (.rng a b) ρ S = R := by
  rw [evi_rng, ha, bind_ok, hb, bind_ok]
  exact h
end
theorem rng_ft (S : Sto) (a k : Nat) (h1 : a ≤ 1000) (h : k ≤ 100000) : rngR S (.int (a : Nat)) (.int ((a + k : Nat) : Int)) = .ok (rngD (a : Nat) k) S := by
  have h1 : rngOk (a : Nat) ((a + k : Nat) : Int) = true := by
    unfold rngOk
    simp only [Bool.and_eq_true, decide_eq_true_eq]
    omega
  have h2 : (((a + k : Nat) : Int) - ((a : Nat) : Int)).toNat = k := by omega
  simp only [rngR, h1, if_true, h2]
end FO

set_option Elab.async false
set_option linter.all false
set_option maxRecDepth 10000
set_option maxHeartbeats 1000000
namespace FO
open PySem L2
@[simp] theorem then_ex (c : Nat) (ρ : Rho) (S : Sto) (k : Rho → Sto → Fl) : (Fl.ex c ρ S).then k = .ex c ρ S := rfl
@[simp] theorem of_ex {α : Type} (ρ : Rho) (c : Nat) (S : Sto) (k : α → Sto → Fl) : Fl.of ρ (.ex c S) k = .ex c ρ S := rfl
@[simp] theorem bind_ex {α β : Type} (c : Nat) (S : Sto) (f : α → Sto → Res β) : (Res.ex c S : Res α).bind f = .ex c S := rfl
theorem shp_stt (s : Stt) : Shp 2 s.e := shp_tup fun x hx => by
  simp only [List.mem_cons, List.not_mem_nil, or_false] at hx
  rcases hx with rfl | rfl | rfl | rfl | rfl
  · exact shp_tx _ _
  · exact shp_tx _ _
  · exact shp_int _ _
  · exact shp_tup fun x hx => by
      obtain ⟨a, _, rfl⟩ := List.mem_map.mp hx
      exact shp_tx 0 a
  · exact shp_tx _ _
theorem shp_map {α : Type} {n : Nat} {f : α → PyData} (h : ∀ x, Shp n (f x)) (l : List α) : Shp (n + 1) (.list (l.map f)) := shp_lst fun x hx => by
  obtain ⟨a, _, rfl⟩ := List.mem_map.mp hx
  exact h a
theorem key_ok (k : Key) : PyData.canLay0 k.e = true := by cases k <;> decide +kernel
theorem shp_key (k : Key) : Shp 0 k.e := ⟨key_ok k, by simp [Key.e, PyData.depth]⟩
theorem shp_view (w : Way) (s : Stt) (g : Bool) : Shp 1 (viewE w s g) := by
  cases g
  · exact shp_tup fun x hx => by
      simp only [List.mem_cons, List.not_mem_nil, or_false] at hx
      rcases hx with rfl | rfl | rfl <;> exact shp_tx _ _
  · exact shp_tx _ _
theorem lift_b {P : Pg} {S : Sto} (b : Bool) : Res.lift S (Option.map W.d (some (PyData.bool b))) = .ok (.d (.bool b)) S := rfl
/-- a row with the law's own beginning -/
theorem hd_key (w : Txt) (h : 1 ≤ w.length) : ∃ k : Key, tx (w.take 1) = k.e := by
  cases w with
  | nil => simp at h
  | cons c r =>
    cases c
    · exact ⟨.a, by show tx [false] = _; simp [Key.e, Key.s]⟩
    · exact ⟨.b, by show tx [true] = _; simp [Key.e, Key.s]⟩
theorem perm_sort {a b : List Txt} (h : a.Perm b) : sortS (a.map st) = sortS (b.map st) := by
  have hp : (sortS (a.map st)).Perm (sortS (b.map st)) := ((List.mergeSort_perm _ _).trans (h.map st)).trans (List.mergeSort_perm _ _).symm
  have tot : ∀ x y : Str, (decide (x.cps.toList ≤ y.cps.toList) || decide (y.cps.toList ≤ x.cps.toList)) = true := fun x y => by
    rcases List.le_total x.cps.toList y.cps.toList with q | q <;> simp [q]
  have tr : ∀ x y z : Str, decide (x.cps.toList ≤ y.cps.toList) = true → decide (y.cps.toList ≤ z.cps.toList) = true → decide (x.cps.toList ≤ z.cps.toList) = true := fun x y z h1 h2 => by
    simp only [decide_eq_true_eq] at *
    exact List.le_trans h1 h2
  have s1 := List.pairwise_mergeSort (le := fun x y : Str => decide (x.cps.toList ≤ y.cps.toList)) tr tot (a.map st)
  have s2 := List.pairwise_mergeSort (le := fun x y : Str => decide (x.cps.toList ≤ y.cps.toList)) tr tot (b.map st)
  refine hp.eq_of_pairwise (le := fun x y : Str => decide (x.cps.toList ≤ y.cps.toList) = true) (fun x y _ _ h1 h2 => ?_) s1 s2
  simp only [decide_eq_true_eq] at h1 h2
  have e := List.le_antisymm h1 h2
  cases x; cases y
  simp at e
  rw [e]
theorem d_sortT (l : List Txt) (h : l.length < 64) : biD .sorted (.tuple (l.map tx)) = some (.list ((sortS (l.map st)).map .str)) := by
  have hb : Nat.blt (l.map st).length 64 = true := by
    rw [List.length_map]; exact Nat.ble_eq_true_of_le h
  simp only [biD]
  rw [mapM_map strOf tx st fun _ => rfl]
  simp only [Option.bind_some, hb, if_true]
theorem d_sortL (l : List Txt) (h : l.length < 64) : biD .sorted (.list (l.map tx)) = some (.list ((sortS (l.map st)).map .str)) := by
  have hb : Nat.blt (l.map st).length 64 = true := by
    rw [List.length_map]; exact Nat.ble_eq_true_of_le h
  simp only [biD]
  rw [mapM_map strOf tx st fun _ => rfl]
  simp only [Option.bind_some, hb, if_true]
theorem sort_tx (l : List Txt) : ∃ m : List Txt, (sortS (l.map st)).map PyData.str = m.map tx := by
  have hp : (sortS (l.map st)).Perm (l.map st) := List.mergeSort_perm _ _
  have key : ∀ q : List Str, (∀ x ∈ q, ∃ t : Txt, x = st t) → ∃ m : List Txt, q.map PyData.str = m.map tx := by
    intro q
    induction q with
    | nil => intro _; exact ⟨[], rfl⟩
    | cons x r ih =>
      intro h
      obtain ⟨t, rfl⟩ := h x List.mem_cons_self
      obtain ⟨m, e⟩ := ih fun y hy => h y (List.mem_cons_of_mem _ hy)
      exact ⟨t :: m, by simp [e]⟩
  exact key _ fun x hx => by
    obtain ⟨t, _, rfl⟩ := List.mem_map.mp (hp.mem_iff.mp hx)
    exact ⟨t, rfl⟩
end FO

set_option Elab.async false
set_option linter.all false
set_option maxRecDepth 10000
set_option maxHeartbeats 1000000
namespace FO
open PySem L2
/-! ### steps of the evaluator: tries, instances -/
section
variable {P : Pg} {fu : Nat} {ρ : Rho} {S : Sto}
@[simp] theorem exS_try (b : Sms) (c i j : Nat) : exS P fu (.try_ b c i j) ρ S = (match exSs P fu b ρ S with
    | .ex k ρ1 S1 => if Nat.blt k 8 && Nat.blt c 8 then (if exSub k c then (if i < ρ1.length ∧ j < ρ1.length then .next ((ρ1.set j (.val (.exc k))).set i .un) S1 else .bad) else .ex k ρ1 S1) else .bad
    | f => f) := by simp only [exS] <;> rfl
@[simp] theorem cmpW_exn (k : Nat) : cmpW .is_ S (.exc k) (.d .none) = some (.bool false) := rfl
@[simp] theorem ev_newL (a : E) : ev P (.newL a) ρ S = (ev P a ρ S).bind fun w S1 => match w with
    | .d (.list xs) => .ok (.ref S1.length) (S1 ++ [.lst xs])
    | _ => .bad := by simp only [ev] <;> rfl
@[simp] theorem ev_fld (c : Nat) (o : E) (f : Str) : ev P (.fld c o f) ρ S = (ev P o ρ S).bind fun w S1 => match w with
    | .ref n => (match S1[n]? with
      | some (.ins k fs) => if k = c then Res.lift S1 (fs.lookup f) else .bad
      | _ => .bad)
    | _ => .bad := by simp only [ev] <;> rfl
@[simp] theorem ev_mk (c f : Nat) (es : Es) : ev P (.mk c f es) ρ S = (evs P es ρ S).bind fun ws S1 => (P.fn f (.ref S1.length :: ws) (S1 ++ [.ins c []])).bind fun r S2 => match r with
    | .d .none => .ok (.ref S1.length) S2
    | _ => .bad := by simp only [ev] <;> rfl
@[simp] theorem ev_mc (c f : Nat) (m : Str) (o : E) (es : Es) : ev P (.mc c f m o es) ρ S = (ev P o ρ S).bind fun w S1 => match w with
    | .ref n => (match S1[n]? with
      | some (.ins k fs) => if k = c ∧ (fs.lookup m).isNone = true then (evs P es ρ S1).bind fun ws S2 => P.fn f (.ref n :: ws) S2 else .bad
      | _ => .bad)
    | _ => .bad := by simp only [ev] <;> rfl
@[simp] theorem ev_pop (o : E) : ev P (.pop o) ρ S = (ev P o ρ S).bind fun w S1 => match w with
    | .ref n => (match S1[n]? with
      | some (.lst xs) => (match xs.getLast? with
        | some x => .ok (.d x) (S1.set n (.lst xs.dropLast))
        | none => .bad)
      | _ => .bad)
    | _ => .bad := by simp only [ev] <;> rfl
@[simp] theorem ev_lenI (c f : Nat) (o : E) : ev P (.lenI c f o) ρ S = (ev P o ρ S).bind fun w S1 => match w with
    | .ref n => (match S1[n]? with
      | some (.ins k _) => if k = c then (P.fn f [.ref n] S1).noex.bind fun r S2 => (match r with
        | .d (.int i) => if 0 ≤ i ∧ i < 1000000 then .ok (.d (.int i)) S2 else .bad
        | _ => .bad) else .bad
      | _ => .bad)
    | _ => .bad := by simp only [ev] <;> rfl
@[simp] theorem exS_appE (o e : E) : exS P fu (.appE o e) ρ S = Fl.of ρ (ev P o ρ S) fun ow S1 => (match ow with
    | .ref n => (match S1[n]? with
      | some (.lst _) => Fl.of ρ (ev P e ρ S1) fun w S2 => (match S2[n]?, w with
        | some (.lst xs), .d x => if Nat.blt xs.length lim then .next ρ (S2.set n (.lst (xs ++ [x]))) else .bad
        | _, _ => .bad)
      | some (.lstW _) => Fl.of ρ (ev P e ρ S1) fun w S2 => (match S2[n]? with
        | some (.lstW xs) => if Nat.blt xs.length lim then .next ρ (S2.set n (.lstW (xs ++ [w]))) else .bad
        | _ => .bad)
      | _ => .bad)
    | _ => .bad) := by simp only [exS] <;> rfl
@[simp] theorem exS_setf (c : Nat) (o : E) (f : Str) (e : E) : exS P fu (.setf c o f e) ρ S = Fl.of ρ (ev P e ρ S) fun w S1 => Fl.of ρ (ev P o ρ S1) fun ow S2 => (match ow with
    | .ref n => (match S2[n]? with
      | some (.ins k fs) => if k = c ∧ fs.length < 900 then .next ρ (S2.set n (.ins c (fput f w fs))) else .bad
      | _ => .bad)
    | _ => .bad) := by simp only [exS] <;> rfl
@[simp] theorem argm_fld (r : Res W) (c : Nat) (o : E) (f : Str) : argm r (.fld c o f) ρ S = r := rfl
@[simp] theorem argm_mc (r : Res W) (c f : Nat) (m : Str) (o : E) (es : Es) : argm r (.mc c f m o es) ρ S = r := rfl
@[simp] theorem argm_mk (r : Res W) (c f : Nat) (es : Es) : argm r (.mk c f es) ρ S = r := rfl
@[simp] theorem argm_lenI (r : Res W) (c f : Nat) (o : E) : argm r (.lenI c f o) ρ S = r := rfl
@[simp] theorem frzE_fld (c : Nat) (o : E) (f : Str) : frzE ρ (.fld c o f) = ρ := rfl
@[simp] theorem frzE_mc (c f : Nat) (m : Str) (o : E) (es : Es) : frzE ρ (.mc c f m o es) = ρ := rfl
@[simp] theorem frzE_mk (c f : Nat) (es : Es) : frzE ρ (.mk c f es) = ρ := rfl
@[simp] theorem frzE_pop (o : E) : frzE ρ (.pop o) = ρ := rfl
theorem call_ex {f : Fn} {ws : List W} {S' : Sto} {c : Nat} {ρ' : Rho} (hl : ws.length = f.np) (h : exSs P fu f.body (startR f ws) S = .ex c ρ' S') : callB P fu f ws S = .ex c S' := by
  unfold callB
  rw [if_pos hl, h]
end
def exName (k : Nat) : Str := (["odd", "way", "words", "keys", "number", "views", "text", "none"] : List Str).getD k "odd"
theorem e_law_error {n : Nat} (hn : 1 ≤ n) {S : Sto} (k : Nat) (h1 : 1 ≤ k) (h2 : k < 8) : FF n 53 [.exc k] S = .ok (.d (.str (exName k))) S := by
  obtain ⟨n, rfl, hm⟩ := pred_of hn
  show callB (PP n) FU fn__law_error _ _ = _
  match k, h1, h2 with
  | 1, _, _ => rfl
  | 2, _, _ => rfl
  | 3, _, _ => rfl
  | 4, _, _ => rfl
  | 5, _, _ => rfl
  | 6, _, _ => rfl
  | 7, _, _ => rfl
/-! ### desks -/
def dkF (i : Nat) (w : Way) (g : Bool) : List (Str × W) := [("way", .d w.e), ("sight", .d (.int (qi g))), ("line", .ref (i + 1)), ("states", .ref (i + 2))]
section
variable (i : Nat) (w : Way) (g : Bool)
@[simp] theorem dk_way : (dkF i w g).lookup (Str.ofString "way") = some (.d w.e) := rfl
@[simp] theorem dk_sight : (dkF i w g).lookup (Str.ofString "sight") = some (.d (.int (qi g))) := rfl
@[simp] theorem dk_line : (dkF i w g).lookup (Str.ofString "line") = some (.ref (i + 1)) := rfl
@[simp] theorem dk_states : (dkF i w g).lookup (Str.ofString "states") = some (.ref (i + 2)) := rfl
@[simp] theorem dk_view : (dkF i w g).lookup (Str.ofString "view") = none := rfl
@[simp] theorem dk_state : (dkF i w g).lookup (Str.ofString "state") = none := rfl
@[simp] theorem dk_press : (dkF i w g).lookup (Str.ofString "press") = none := rfl
@[simp] theorem dk_pressed : (dkF i w g).lookup (Str.ofString "pressed") = none := rfl
@[simp] theorem dk_off : (dkF i w g).lookup (Str.ofString "taken_off") = none := rfl
end
structure At (S : Sto) (i : Nat) (w : Way) (g : Bool) (ws : List Txt) (r : List Key) : Prop where
  c0 : S[i]? = some (.ins 0 (dkF i w g))
  c1 : S[i + 1]? = some (.lst (r.map Key.e))
  c2 : S[i + 2]? = some (.lst ((sts w (begin ws) r).map Stt.e))
theorem sts_last (w : Way) (ws : List Txt) (r : List Key) : atI ((sts w (begin ws) r).map Stt.e) (-1) = some (lastS w ws r).e := by
  rw [at_last _ (by simp [sts_ne]), List.getLast?_map, List.getLast?_eq_some_getLast (sts_ne _ _ _)]
  rfl
theorem sts_snoc (w : Way) : ∀ (r : List Key) (s : Stt) (k : Key), sts w s (r ++ [k]) = sts w s r ++ [stepP w ((sts w s r).getLast (sts_ne _ _ _)) k]
  | [], s, k => by simp [sts]
  | c :: r, s, k => by
    simp only [List.cons_append, sts]
    rw [sts_snoc w r (stepP w s c) k]
    simp [List.getLast_cons (sts_ne _ _ _)]
theorem last_snoc (w : Way) (ws : List Txt) (r : List Key) (k : Key) : lastS w ws (r ++ [k]) = stepP w (lastS w ws r) k := by
  unfold lastS
  simp [sts_snoc]
theorem last_gs {w : Way} {ws : List Txt} (hw : Words ws) (r : List Key) : Gs w ws (lastS w ws r) := sts_all hw r _ (List.getLast_mem _)
section
variable {n : Nat} {S : Sto} {i : Nat} {w : Way} {g : Bool} {ws : List Txt} {r : List Key}
theorem e_dlen (hn : 1 ≤ n) (h : At S i w g ws r) : FF n 58 [.ref i] S = .ok (.d (.int (r.length : Nat))) S := by
  obtain ⟨n, rfl, hm⟩ := pred_of hn
  show callB (PP n) FU fn_Desk___len__ _ _ = _
  refine call_ret rfl ?_
  simp [fn_Desk___len__, ir_Desk___len__, startR, exSs_cons, h.c0, h.c1]
theorem e_dstate (hn : 1 ≤ n) (h : At S i w g ws r) : FF n 61 [.ref i] S = .ok (.d (lastS w ws r).e) S := by
  obtain ⟨n, rfl, hm⟩ := pred_of hn
  show callB (PP n) FU fn_Desk_state _ _ = _
  refine call_ret rfl ?_
  simp [fn_Desk_state, ir_Desk_state, startR, exSs_cons, h.c0, h.c2, sts_last]
theorem e_dpressed (hn : 1 ≤ n) (h : At S i w g ws r) : FF n 62 [.ref i] S = .ok (.d (.list (r.map Key.e))) S := by
  obtain ⟨n, rfl, hm⟩ := pred_of hn
  show callB (PP n) FU fn_Desk_pressed _ _ = _
  refine call_ret rfl ?_
  simp [fn_Desk_pressed, ir_Desk_pressed, startR, exSs_cons, h.c0, h.c1]
theorem e_dview (hn : 4 ≤ n) (hw : Words ws) (h : At S i w g ws r) : FF n 60 [.ref i] S = .ok (.d (viewE w (lastS w ws r) g)) S := by
  obtain ⟨n, rfl, hm⟩ := pred_of hn
  have e := e_view (n := n) (by omega) (S := S) w (lastS w ws r) g ((last_gs hw r).wf hw)
  show callB (PP n) FU fn_Desk_view _ _ = _
  refine call_ret rfl ?_
  simp [fn_Desk_view, ir_Desk_view, startR, exSs_cons, h.c0, h.c2, sts_last, e]
theorem e_check_key (hn : 2 ≤ n) (k : Key) : FF n 56 [.d k.e] S = .ok (.d .none) S := by
  obtain ⟨n, rfl, hm⟩ := pred_of hn
  have e := e_is_key (n := n) (by omega) (S := S) k
  show callB (PP n) FU fn_check_key _ _ = _
  refine call_next (ρ := [.val (.d k.e)]) rfl ?_
  simp [fn_check_key, ir_check_key, startR, exSs_cons, e]
theorem e_check_bad (hn : 2 ≤ n) {x : PyData} (hx : ∀ m S, FF (m + 1) 3 [.d x] S = .ok (.d (.bool false)) S) : FF n 56 [.d x] S = .ex 3 S := by
  obtain ⟨n, rfl, hm⟩ := pred_of hn
  obtain ⟨n, rfl, hm⟩ := pred_of hm
  have e := hx n S
  show callB (PP (n + 1)) FU fn_check_key _ _ = _
  refine call_ex (ρ' := [.val (.d x)]) rfl ?_
  simp [fn_check_key, ir_check_key, startR, exSs_cons, e]
/-- a key is put behind -/
def dPut (S : Sto) (i : Nat) (w : Way) (ws : List Txt) (r : List Key) : Sto := (S.set (i + 2) (.lst ((sts w (begin ws) r).map Stt.e))).set (i + 1) (.lst (r.map Key.e))
theorem At.put (h : At S i w g ws r) (q : List Key) : At (dPut S i w ws q) i w g ws q := by
  have l1 := (List.getElem?_eq_some_iff.mp h.c1).1
  have l2 := (List.getElem?_eq_some_iff.mp h.c2).1
  refine ⟨?_, ?_, ?_⟩
  · unfold dPut
    rw [List.getElem?_set_ne (by omega), List.getElem?_set_ne (by omega)]; exact h.c0
  · unfold dPut
    rw [List.getElem?_set_self (by simp; omega)]
  · unfold dPut
    rw [List.getElem?_set_ne (by omega), List.getElem?_set_self (by omega)]
theorem e_dpress (hn : 5 ≤ n) (hw : Words ws) (h : At S i w g ws r) (k : Key) (hl : r.length < 100) : FF n 59 [.ref i, .d k.e] S = .ok (.d (viewE w (stepP w (lastS w ws r) k) g)) (dPut S i w ws (r ++ [k])) := by
  obtain ⟨n, rfl, hm⟩ := pred_of hn
  have hg := last_gs (w := w) hw r
  have e1 := e_check_key (n := n) (by omega) (S := S) k
  have e2 := e_step (n := n) (by omega) (S := S) w (lastS w ws r) k (hg.wf hw) hg.fb
  have l1 := (List.getElem?_eq_some_iff.mp h.c1).1
  have l2 := (List.getElem?_eq_some_iff.mp h.c2).1
  have e3 := e_dview (n := n) (by omega) hw (h.put (r ++ [k]))
  rw [last_snoc] at e3
  have hs : (sts w (begin ws) (r ++ [k])).map Stt.e = (sts w (begin ws) r).map Stt.e ++ [(stepP w (lastS w ws r) k).e] := by
    rw [sts_snoc]
    simp [lastS]
  have g8 : gcU 8 = some (.int 100) := rfl
  have hne : ¬ ((r.length : Int) = 100) := by omega
  have hz : (sts w (begin ws) r).length < 1000000 := by rw [sts_len]; omega
  have hz2 : r.length < 1000000 := by omega
  have i1 : (S.set (i + 2) (.lst ((sts w (begin ws) (r ++ [k])).map Stt.e)))[i]? = some (.ins 0 (dkF i w g)) := by rw [List.getElem?_set_ne (by omega)]; exact h.c0
  have i2 : (S.set (i + 2) (.lst ((sts w (begin ws) (r ++ [k])).map Stt.e)))[i + 1]? = some (.lst (r.map Key.e)) := by rw [List.getElem?_set_ne (by omega)]; exact h.c1
  have i3 := (h.put (r ++ [k])).c0
  show callB (PP n) FU fn_Desk_press _ _ = _
  refine call_ret rfl ?_
  show exSs (PP n) FU (sdrop 0 ir_Desk_press) [.val (.ref i), .val (.d k.e)] S = _
  rw [ex_next 0 rfl (ρ' := [.val (.ref i), .val (.d k.e)]) (S' := S) (by simp [e1])]
  rw [ex_skip 1 rfl (S' := S) (by simp [h.c0, h.c1, g8, hne])]
  rw [ex_next 2 rfl (ρ' := [.val (.ref i), .val (.d k.e)]) (S' := S.set (i + 2) (.lst ((sts w (begin ws) (r ++ [k])).map Stt.e))) (by simp [h.c0, h.c2, sts_last, e2, hz, hs])]
  rw [ex_next 3 rfl (ρ' := [.val (.ref i), .val (.d k.e)]) (S' := dPut S i w ws (r ++ [k])) (by simp [i1, i2, hz2, dPut])]
  rw [ex_at 4 rfl]
  simp [i3, e3]
theorem e_dfull (hn : 5 ≤ n) (h : At S i w g ws r) (k : Key) (hl : r.length = 100) : FF n 59 [.ref i, .d k.e] S = .ex 4 S := by
  obtain ⟨n, rfl, hm⟩ := pred_of hn
  have e1 := e_check_key (n := n) (by omega) (S := S) k
  have g8 : gcU 8 = some (.int 100) := rfl
  show callB (PP n) FU fn_Desk_press _ _ = _
  refine call_ex (ρ' := [.val (.ref i), .val (.d k.e)]) rfl ?_
  show exSs (PP n) FU (sdrop 0 ir_Desk_press) [.val (.ref i), .val (.d k.e)] S = _
  rw [ex_next 0 rfl (ρ' := [.val (.ref i), .val (.d k.e)]) (S' := S) (by simp [e1])]
  rw [ex_at 1 rfl]
  simp [h.c0, h.c1, g8, hl, exSs_cons]
theorem e_dbad (hn : 5 ≤ n) {x : PyData} (hx : ∀ m S, FF (m + 1) 3 [.d x] S = .ok (.d (.bool false)) S) : FF n 59 [.ref i, .d x] S = .ex 3 S := by
  obtain ⟨n, rfl, hm⟩ := pred_of hn
  have e1 := e_check_bad (n := n) (by omega) (S := S) hx
  show callB (PP n) FU fn_Desk_press _ _ = _
  refine call_ex (ρ' := [.val (.ref i), .val (.d x)]) rfl ?_
  show exSs (PP n) FU (sdrop 0 ir_Desk_press) [.val (.ref i), .val (.d x)] S = _
  rw [ex_at 0 rfl]
  simp [e1]
theorem sts_pop (w : Way) (ws : List Txt) (r : List Key) (k : Key) : ((sts w (begin ws) (r ++ [k])).map Stt.e).dropLast = (sts w (begin ws) r).map Stt.e := by
  rw [sts_snoc]; simp
theorem e_doff0 (hn : 1 ≤ n) (h : At S i w g ws []) : FF n 63 [.ref i] S = .ex 7 S := by
  obtain ⟨n, rfl, hm⟩ := pred_of hn
  have q := d_isnil Key.e [] 0 shp_key (by omega)
  simp only [List.map_nil] at q
  have c1 := h.c1
  simp only [List.map_nil] at c1
  show callB (PP n) FU fn_Desk_taken_off _ _ = _
  refine call_ex (ρ' := [.val (.ref i)]) rfl ?_
  simp [fn_Desk_taken_off, ir_Desk_taken_off, startR, exSs_cons, h.c0, c1, cmpW, q]
theorem e_doff (hn : 1 ≤ n) {k : Key} (h : At S i w g ws (r ++ [k])) : FF n 63 [.ref i] S = .ok (.d k.e) (dPut S i w ws r) := by
  obtain ⟨n, rfl, hm⟩ := pred_of hn
  have q := d_isnil Key.e (r ++ [k]) 0 shp_key (by omega)
  have hne : ¬ (r ++ [k] = []) := by simp
  simp only [hne, decide_false] at q
  have i1 : (S.set (i + 2) (.lst ((sts w (begin ws) r).map Stt.e)))[i]? = some (.ins 0 (dkF i w g)) := by rw [List.getElem?_set_ne (by omega)]; exact h.c0
  have i2 : (S.set (i + 2) (.lst ((sts w (begin ws) r).map Stt.e)))[i + 1]? = some (.lst ((r ++ [k]).map Key.e)) := by rw [List.getElem?_set_ne (by omega)]; exact h.c1
  obtain ⟨z, hz⟩ : ∃ z, ((sts w (begin ws) (r ++ [k])).map Stt.e).getLast? = some z := ⟨_, List.getLast?_eq_some_getLast (by simp [sts_ne])⟩
  have hp := sts_pop w ws r k
  have hk : ((r ++ [k]).map Key.e).getLast? = some k.e := by simp
  have hk2 : ((r ++ [k]).map Key.e).dropLast = r.map Key.e := by simp
  show callB (PP n) FU fn_Desk_taken_off _ _ = _
  refine call_ret rfl ?_
  show exSs (PP n) FU (sdrop 0 ir_Desk_taken_off) [.val (.ref i)] S = _
  rw [ex_skip 0 rfl (S' := S) (by simp only [ev_cmp, ev_fld, ev_v, argm_fld, bind_ok, List.getElem?_cons_zero, h.c0]; simp [cmpW, h.c1]; rw [List.map_append] at q; simp only [List.map_cons, List.map_nil] at q; rw [q]; rfl)]
  rw [ex_next 1 rfl (ρ' := [.val (.ref i)]) (S' := S.set (i + 2) (.lst ((sts w (begin ws) r).map Stt.e))) (by
    simp only [exS_expr, ev_pop, ev_fld, ev_v, bind_ok, List.getElem?_cons_zero, h.c0]
    simp only [if_true, dk_states, lift_some, bind_ok, h.c2, hz, hp, of_ok])]
  rw [ex_at 2 rfl]
  simp only [exS_ret, frzE_pop, ev_pop, ev_fld, ev_v, bind_ok, List.getElem?_cons_zero, i1]
  simp [i2]
  rfl
end
end FO

set_option Elab.async false
set_option linter.all false
set_option maxRecDepth 10000
set_option maxHeartbeats 1000000
namespace FO
open PySem L2
/-! ### finitely many states -/
theorem nodup_le {α : Type} [DecidableEq α] : ∀ {l U : List α}, l.Nodup → (∀ x ∈ l, x ∈ U) → l.length ≤ U.length
  | [], _, _, _ => Nat.zero_le _
  | x :: l, U, nd, h => by
    obtain ⟨h1, h2⟩ := List.nodup_cons.mp nd
    have ih := nodup_le (U := U.erase x) h2 fun y hy => (List.mem_erase_of_ne (fun e : y = x => h1 (by rw [← e]; exact hy))).mpr (h y (List.mem_cons_of_mem _ hy))
    have hm := h x List.mem_cons_self
    have e := List.length_erase_of_mem hm
    have : 0 < U.length := List.length_pos_of_mem hm
    rw [List.length_cons]; omega
def tup {α : Type} (l : List α) : Nat → List (List α)
  | 0 => [[]]
  | k + 1 => l.flatMap fun x => (tup l k).map (x :: ·)
theorem tup_mem {α : Type} {l : List α} : ∀ (o : List α), (∀ x ∈ o, x ∈ l) → o ∈ tup l o.length
  | [], _ => by simp [tup]
  | x :: o, h => by
    rw [List.length_cons, tup]
    exact List.mem_flatMap.mpr ⟨x, h x List.mem_cons_self, List.mem_map.mpr ⟨o, tup_mem o fun y hy => h y (List.mem_cons_of_mem _ hy), rfl⟩⟩
theorem tup_len {α : Type} (l : List α) : ∀ k, (tup l k).length = l.length ^ k
  | 0 => rfl
  | k + 1 => by
    rw [tup, List.length_flatMap]
    have : (l.map fun x => ((tup l k).map (x :: ·)).length) = l.map fun _ => l.length ^ k := by
      apply List.map_congr_left
      intro x _
      rw [List.length_map, tup_len l k]
    rw [this]
    clear this
    have : ∀ m : List α, (m.map fun _ => l.length ^ k).sum = m.length * l.length ^ k := fun m => by
      induction m with
      | nil => simp
      | cons x r ih => rw [List.map_cons, List.sum_cons, ih, List.length_cons, Nat.succ_mul]; omega
    rw [this, Nat.pow_succ, Nat.mul_comm]
def T31 : List Txt := (List.range 5).flatMap fun k => tup [false, true] k
theorem T31_mem (t : Txt) (h : t.length ≤ 4) : t ∈ T31 := List.mem_flatMap.mpr ⟨t.length, List.mem_range.mpr (by omega), tup_mem t fun x _ => by cases x <;> simp⟩
/-- what is known of a state that comes -/
structure Us (w : Way) (ws : List Txt) (s : Stt) : Prop extends Gs w ws s where
  pl : s.p.length ≤ 4
theorem us_begin (w : Way) (ws : List Txt) : Us w ws (begin ws) := ⟨gs_begin w ws, by simp [begin]⟩
theorem us_step {w : Way} {ws : List Txt} {s : Stt} (hw : Words ws) (g : Us w ws s) (k : Key) : Us w ws (stepP w s k) := by
  refine ⟨gs_step hw g.toGs k, ?_⟩
  have h1 := gs_offer hw g.toGs
  have h2 := g.tl
  cases k with
  | tab => show (pressTab w s).p.length ≤ 4; unfold pressTab; split <;> (try split) <;> simp
  | blank => show (pressEnd w s _).p.length ≤ 4; unfold pressEnd; dsimp only; split <;> assumption
  | fin => show (pressEnd w s _).p.length ≤ 4; unfold pressEnd; dsimp only; split <;> assumption
  | back => show (pressBack w s).p.length ≤ 4; unfold pressBack; simp
  | a => show (typed s false).p.length ≤ 4; unfold typed; split <;> simp
  | b => show (typed s true).p.length ≤ 4; unfold typed; split <;> simp
def univ (ws : List Txt) : List Stt :=
  (T31.flatMap fun t => (List.range 5).flatMap fun j => [false, true].flatMap fun q => (tup ws ws.length).map fun o => ⟨t, t.take j, q, o, []⟩)
  ++ ([false, true].flatMap fun q => (tup ws ws.length).flatMap fun o => T31.map fun p => ⟨[], [], q, o, p⟩)
theorem us_univ {w : Way} {ws : List Txt} {s : Stt} (g : Us w ws s) : s ∈ univ ws := by
  obtain ⟨t, b, q, o, p⟩ := s
  have ho : o ∈ tup ws ws.length := by
    rw [← g.perm.length_eq]
    exact tup_mem o fun x hx => g.perm.mem_iff.mp hx
  have hq : q ∈ [false, true] := by cases q <;> simp
  have hb : ∃ j, j < 5 ∧ b = t.take j := by
    by_cases c : b = []
    · exact ⟨0, by omega, by rw [c]; simp⟩
    · obtain ⟨h1, _, _⟩ := g.bt c
      have h1 : b <+: t := h1
      have := h1.length_le
      have h4 : t.length ≤ 4 := g.tl
      exact ⟨b.length, by omega, (pre_take.mp h1).symm⟩
  by_cases c : p = []
  · subst c
    obtain ⟨j, hj, rfl⟩ := hb
    refine List.mem_append_left _ (List.mem_flatMap.mpr ⟨t, T31_mem t g.tl, List.mem_flatMap.mpr ⟨j, List.mem_range.mpr hj, List.mem_flatMap.mpr ⟨q, hq, List.mem_map.mpr ⟨o, ho, rfl⟩⟩⟩⟩)
  · have ht : t = [] := g.pt c
    subst ht
    obtain ⟨j, hj, rfl⟩ := hb
    refine List.mem_append_right _ (List.mem_flatMap.mpr ⟨q, hq, List.mem_flatMap.mpr ⟨o, ho, List.mem_map.mpr ⟨p, T31_mem p g.pl, by simp⟩⟩⟩)
theorem sum_const {α : Type} (f : α → Nat) (c : Nat) : ∀ l : List α, (∀ x ∈ l, f x = c) → (l.map f).sum = l.length * c
  | [], _ => by simp
  | x :: l, h => by
    rw [List.map_cons, List.sum_cons, sum_const f c l fun y hy => h y (List.mem_cons_of_mem _ hy), h x List.mem_cons_self, List.length_cons, Nat.succ_mul]; omega
theorem univ_len {ws : List Txt} (hw : Words ws) : (univ ws).length ≤ 11000 := by
  have h27 : (tup ws ws.length).length ≤ 27 := by
    rw [tup_len]
    have h3 := hw.few
    have h1 := hw.pos
    rcases (by omega : ws.length = 1 ∨ ws.length = 2 ∨ ws.length = 3) with h | h | h <;> rw [h] <;> decide
  have t31 : T31.length = 31 := by decide +kernel
  unfold univ
  rw [List.length_append, List.length_flatMap, List.length_flatMap]
  rw [sum_const _ (5 * (2 * (tup ws ws.length).length)) T31 fun t _ => by
    rw [List.length_flatMap, sum_const _ (2 * (tup ws ws.length).length) (List.range 5) fun j _ => by
      rw [List.length_flatMap, sum_const _ (tup ws ws.length).length [false, true] fun q _ => by rw [List.length_map]]; rfl]
    simp]
  rw [sum_const _ ((tup ws ws.length).length * 31) [false, true] fun q _ => by
    rw [List.length_flatMap, sum_const _ 31 (tup ws ws.length) fun o _ => by rw [List.length_map, t31]]]
  rw [t31]
  show 31 * (5 * (2 * (tup ws ws.length).length)) + 2 * ((tup ws ws.length).length * 31) ≤ 11000
  omega
/-! ### breadth first, plainly -/
abbrev keys6 : List Key := [.a, .b, .tab, .blank, .back, .fin]
abbrev SR : Type := Stt × List Key
def addK (w : Way) (p : SR) (l : List SR) (k : Key) : List SR := if stepP w p.1 k ∈ l.map (·.1) then l else l ++ [(stepP w p.1 k, p.2 ++ [k])]
structure Bf (w : Way) (ws : List Txt) (s0 : Stt) (l : List SR) : Prop where
  nd : (l.map (·.1)).Nodup
  us : ∀ p ∈ l, Us w ws p.1
  run : ∀ p ∈ l, p.2.foldl (stepP w) s0 = p.1
  len : ∀ (i : Nat) (p : SR), l[i]? = some p → p.2.length ≤ i
  s0 : s0 ∈ l.map (·.1)
theorem Bf.few {w : Way} {ws : List Txt} {s0 : Stt} {l : List SR} (hw : Words ws) (b : Bf w ws s0 l) : l.length ≤ 11000 := by
  have := nodup_le b.nd (U := univ ws) fun x hx => by
    obtain ⟨p, hp, rfl⟩ := List.mem_map.mp hx
    exact us_univ (b.us p hp)
  rw [List.length_map] at this
  exact Nat.le_trans this (univ_len hw)
theorem addK_bf {w : Way} {ws : List Txt} {s0 : Stt} {l : List SR} {p : SR} (hw : Words ws) (b : Bf w ws s0 l) (hp : p ∈ l) (k : Key) : Bf w ws s0 (addK w p l k) ∧ (∀ x ∈ l.map (·.1), x ∈ (addK w p l k).map (·.1)) ∧ stepP w p.1 k ∈ (addK w p l k).map (·.1) ∧ ∃ m, addK w p l k = l ++ m := by
  unfold addK
  by_cases c : stepP w p.1 k ∈ l.map (·.1)
  · rw [if_pos c]; exact ⟨b, fun _ h => h, c, [], by simp⟩
  · rw [if_neg c]
    refine ⟨⟨?_, fun q hq => ?_, fun q hq => ?_, fun i q hi => ?_, ?_⟩, fun x hx => by rw [List.map_append]; exact List.mem_append_left _ hx, by simp, _, rfl⟩
    · rw [List.map_append]
      refine List.nodup_append.mpr ⟨b.nd, by simp, fun x hx y hy e => ?_⟩
      have : y = stepP w p.1 k := by simpa using hy
      exact c (by rw [← this, ← e]; exact hx)
    · rcases List.mem_append.mp hq with h | h
      · exact b.us q h
      · have : q = (stepP w p.1 k, p.2 ++ [k]) := by simpa using h
        rw [this]; exact us_step hw (b.us p hp) k
    · rcases List.mem_append.mp hq with h | h
      · exact b.run q h
      · have : q = (stepP w p.1 k, p.2 ++ [k]) := by simpa using h
        rw [this, List.foldl_append, b.run p hp]; rfl
    · by_cases hl : i < l.length
      · rw [List.getElem?_append_left hl] at hi; exact b.len i q hi
      · rw [List.getElem?_append_right (by omega)] at hi
        have h0 : i - l.length = 0 := by
          have := (List.getElem?_eq_some_iff.mp hi).1
          simp at this; omega
        rw [h0] at hi
        have : q = (stepP w p.1 k, p.2 ++ [k]) := by simpa using hi.symm
        rw [this]
        obtain ⟨j, hj, e⟩ := List.mem_iff_getElem.mp hp
        have := b.len j p (by rw [List.getElem?_eq_getElem hj, e])
        simp only [List.length_append, List.length_singleton]; omega
    · rw [List.map_append]; exact List.mem_append_left _ b.s0
theorem addAll_bf {w : Way} {ws : List Txt} {s0 : Stt} {p : SR} (hw : Words ws) : ∀ (ks : List Key) (l : List SR), Bf w ws s0 l → p ∈ l → Bf w ws s0 (ks.foldl (addK w p) l) ∧ (∀ x ∈ l.map (·.1), x ∈ (ks.foldl (addK w p) l).map (·.1)) ∧ (∀ k ∈ ks, stepP w p.1 k ∈ (ks.foldl (addK w p) l).map (·.1)) ∧ ∃ m, ks.foldl (addK w p) l = l ++ m
  | [], l, b, hp => ⟨b, (fun _ h => h), (fun _ h => nomatch h), [], by simp⟩
  | k :: ks, l, b, hp => by
    obtain ⟨b1, s1, t1, m1, e1⟩ := addK_bf hw b hp k
    have hp1 : p ∈ addK w p l k := by rw [e1]; exact List.mem_append_left _ hp
    obtain ⟨b2, s2, t2, m2, e2⟩ := addAll_bf hw ks (addK w p l k) b1 hp1
    refine ⟨b2, fun x hx => s2 x (s1 x hx), fun j hj => ?_, m1 ++ m2, by rw [List.foldl_cons, e2, e1, List.append_assoc]⟩
    rcases List.mem_cons.mp hj with e | h
    · subst e; exact s2 _ t1
    · exact t2 j h
/-- the states that come from one -/
def Rch (w : Way) (s0 s : Stt) : Prop := ∃ r : List Key, r.foldl (stepP w) s0 = s
theorem closed_rch {w : Way} {ws : List Txt} {s0 : Stt} {l : List SR} (b : Bf w ws s0 l) (hc : ∀ p ∈ l, ∀ k, stepP w p.1 k ∈ l.map (·.1)) (s : Stt) : s ∈ l.map (·.1) ↔ Rch w s0 s := by
  constructor
  · intro h
    obtain ⟨p, hp, rfl⟩ := List.mem_map.mp h
    exact ⟨p.2, b.run p hp⟩
  · rintro ⟨r, rfl⟩
    have : ∀ (r : List Key) (x : Stt), x ∈ l.map (·.1) → r.foldl (stepP w) x ∈ l.map (·.1) := fun r => by
      induction r with
      | nil => exact fun x h => h
      | cons k r ih =>
        intro x h
        obtain ⟨p, hp, rfl⟩ := List.mem_map.mp h
        exact ih _ (hc p hp k)
    exact this r s0 b.s0
/-! ### the queue's run; shortest rows -/
def qn (w : Way) : Nat → List SR → Nat → List SR
  | 0, l, _ => l
  | m + 1, l, h => match l[h]? with
    | some p => qn w m (keys6.foldl (addK w p) l) (h + 1)
    | none => l
@[irreducible] def bfs (w : Way) (s0 : Stt) : List SR := qn w 11001 [(s0, [])] 0
theorem bfs_eq (w : Way) (s0 : Stt) : bfs w s0 = qn w 11001 [(s0, [])] 0 := by unfold bfs; rfl
structure Bmi (w : Way) (l : List SR) (h : Nat) : Prop where
  srt : l.Pairwise fun a b => a.2.length ≤ b.2.length
  near : ∀ p, l[h]? = some p → ∀ q ∈ l, q.2.length ≤ p.2.length + 1
  done : ∀ i p, i < h → l[i]? = some p → ∀ k, ∃ q ∈ l, q.1 = stepP w p.1 k ∧ q.2.length ≤ p.2.length + 1
theorem addK_len {w : Way} {p : SR} {l : List SR} (k : Key) (hs : l.Pairwise fun a b => a.2.length ≤ b.2.length) (hn : ∀ q ∈ l, q.2.length ≤ p.2.length + 1) : (addK w p l k).Pairwise (fun a b => a.2.length ≤ b.2.length) ∧ ∀ q ∈ addK w p l k, q.2.length ≤ p.2.length + 1 := by
  unfold addK
  split
  · exact ⟨hs, hn⟩
  · refine ⟨List.pairwise_append.mpr ⟨hs, by simp, fun a ha b hb => ?_⟩, fun q hq => ?_⟩
    · rw [List.mem_singleton.mp hb]
      have := hn a ha
      simp
      omega
    · rcases List.mem_append.mp hq with h | h
      · exact hn q h
      · rw [List.mem_singleton.mp h]; simp
theorem addAll_len {w : Way} {p : SR} : ∀ (ks : List Key) {l : List SR}, l.Pairwise (fun a b => a.2.length ≤ b.2.length) → (∀ q ∈ l, q.2.length ≤ p.2.length + 1) → (ks.foldl (addK w p) l).Pairwise (fun a b => a.2.length ≤ b.2.length) ∧ ∀ q ∈ ks.foldl (addK w p) l, q.2.length ≤ p.2.length + 1
  | [], _, hs, hn => ⟨hs, hn⟩
  | k :: ks, _, hs, hn => by
    obtain ⟨h1, h2⟩ := addK_len k hs hn
    exact addAll_len ks h1 h2
/-- all that the queue has gone through -/
def Cls (w : Way) (l : List SR) : Prop := ∀ p ∈ l, ∀ k, ∃ q ∈ l, q.1 = stepP w p.1 k ∧ q.2.length ≤ p.2.length + 1
theorem qn_ok {w : Way} {ws : List Txt} {s0 : Stt} (hw : Words ws) : ∀ (m : Nat) (l : List SR) (h : Nat), Bf w ws s0 l → Bmi w l h → h ≤ l.length → h + m = 11001 → Bf w ws s0 (qn w m l h) ∧ Cls w (qn w m l h) ∧ ∃ t, qn w m l h = l ++ t
  | 0, l, h, b, _, hh, hm => by have := b.few hw; omega
  | m + 1, l, h, b, bm, hh, hm => by
    unfold qn
    cases hp : l[h]? with
    | none =>
      have hl : l.length ≤ h := List.getElem?_eq_none_iff.mp hp
      dsimp only
      refine ⟨b, fun p hpm k => ?_, [], by simp⟩
      obtain ⟨i, hi, e⟩ := List.mem_iff_getElem.mp hpm
      exact bm.done i p (by omega) (by rw [List.getElem?_eq_getElem hi, e]) k
    | some p =>
      have hpm : p ∈ l := List.mem_of_getElem? hp
      obtain ⟨b1, s1, t1, m1, e1⟩ := addAll_bf hw keys6 l b hpm
      obtain ⟨a1, a2⟩ := addAll_len (w := w) keys6 bm.srt (bm.near p hp)
      have hlt : h < l.length := (List.getElem?_eq_some_iff.mp hp).1
      have hl1 : ∀ i, i < l.length → (keys6.foldl (addK w p) l)[i]? = l[i]? := fun i hi => by rw [e1, List.getElem?_append_left hi]
      have bm1 : Bmi w (keys6.foldl (addK w p) l) (h + 1) := by
        refine ⟨a1, fun p' hp' q hq => ?_, fun i q hi hq k => ?_⟩
        · have h1 := a2 q hq
          obtain ⟨i1, q1⟩ := List.getElem?_eq_some_iff.mp hp'
          have hph : (keys6.foldl (addK w p) l)[h]? = some p := by rw [hl1 h hlt, hp]
          obtain ⟨i2, q2⟩ := List.getElem?_eq_some_iff.mp hph
          have h2 := List.pairwise_iff_getElem.mp a1 h (h + 1) i2 i1 (by omega)
          rw [q1, q2] at h2
          omega
        · by_cases c : i < h
          · rw [hl1 i (by omega)] at hq
            obtain ⟨z, z1, z2⟩ := bm.done i q c hq k
            exact ⟨z, by rw [e1]; exact List.mem_append_left _ z1, z2⟩
          · have : i = h := by omega
            subst this
            rw [hl1 i hlt, hp] at hq
            cases hq
            obtain ⟨z, z1, z2⟩ := List.mem_map.mp (t1 k (by cases k <;> simp))
            exact ⟨z, z1, z2, a2 z z1⟩
      obtain ⟨r1, r2, t, r3⟩ := qn_ok hw m (keys6.foldl (addK w p) l) (h + 1) b1 bm1 (by rw [e1, List.length_append]; omega) (by omega)
      exact ⟨r1, r2, m1 ++ t, by dsimp only; rw [r3, e1, List.append_assoc]⟩
theorem bf_start {w : Way} {ws : List Txt} {s0 : Stt} (g : Us w ws s0) : Bf w ws s0 [(s0, [])] := ⟨by simp, fun p hp => by rw [List.mem_singleton.mp hp]; exact g, fun p hp => by rw [List.mem_singleton.mp hp]; rfl, fun i p hi => by
    have h0 : i = 0 := by have := (List.getElem?_eq_some_iff.mp hi).1; simp at this; omega
    subst h0
    have : p = (s0, []) := by simpa using hi.symm
    rw [this]; simp, by simp⟩
theorem bm_start (w : Way) (s0 : Stt) : Bmi w [(s0, [])] 0 := ⟨by simp, fun p _ q hq => by rw [List.mem_singleton.mp hq]; simp, fun i p hi => by omega⟩
theorem bfs_ok {w : Way} {ws : List Txt} {s0 : Stt} (hw : Words ws) (g : Us w ws s0) : Bf w ws s0 (bfs w s0) ∧ Cls w (bfs w s0) ∧ ∃ t, bfs w s0 = [(s0, [])] ++ t := by
  rw [bfs_eq]
  exact qn_ok hw 11001 _ 0 (bf_start g) (bm_start w s0) (by simp) (by omega)
theorem bfs_rch {w : Way} {ws : List Txt} {s0 : Stt} (hw : Words ws) (g : Us w ws s0) (s : Stt) : s ∈ (bfs w s0).map (·.1) ↔ Rch w s0 s := by
  obtain ⟨b, c, _⟩ := bfs_ok hw g
  refine closed_rch b (fun p hp k => ?_) s
  obtain ⟨q, q1, q2, _⟩ := c p hp k
  exact List.mem_map.mpr ⟨q, q1, q2⟩
/-- rows found by breadth are shortest -/
theorem bfs_short {w : Way} {ws : List Txt} {s0 : Stt} (hw : Words ws) (g : Us w ws s0) {p : SR} (hp : p ∈ bfs w s0) (r : List Key) (hr : r.foldl (stepP w) s0 = p.1) : p.2.length ≤ r.length := by
  obtain ⟨b, c, t, e⟩ := bfs_ok hw g
  have go : ∀ (r : List Key) (q : SR), q ∈ bfs w s0 → ∃ z ∈ bfs w s0, z.1 = r.foldl (stepP w) q.1 ∧ z.2.length ≤ q.2.length + r.length := fun r => by
    induction r with
    | nil => exact fun q hq => ⟨q, hq, rfl, by simp⟩
    | cons k r ih =>
      intro q hq
      obtain ⟨q', h1, h2, h3⟩ := c q hq k
      obtain ⟨z, z1, z2, z3⟩ := ih q' h1
      exact ⟨z, z1, by rw [z2, h2]; rfl, by rw [List.length_cons]; omega⟩
  obtain ⟨z, z1, z2, z3⟩ := go r (s0, []) (by rw [e]; simp)
  have e1 : z.1 = p.1 := by rw [z2]; exact hr
  have ez : z = p := by
    obtain ⟨i, hi, q1⟩ := List.mem_iff_getElem.mp z1
    obtain ⟨j, hj, q2⟩ := List.mem_iff_getElem.mp hp
    have : i = j := by
      rcases Nat.lt_trichotomy i j with c | c | c
      · have := List.pairwise_iff_getElem.mp b.nd i j (by simpa using hi) (by simpa using hj) c
        simp [q1, q2, e1] at this
      · exact c
      · have := List.pairwise_iff_getElem.mp b.nd j i (by simpa using hj) (by simpa using hi) c
        simp [q1, q2, e1] at this
    subst this
    rw [← q1, ← q2]
  rw [← ez]
  simpa using z3
/-! ### keys of dicts -/
theorem eqvAll_txs : ∀ a b : List Txt, PyData.eqvAll (a.map tx) (b.map tx) = decide (a = b)
  | [], [] => by simp [PyData.eqvAll]
  | [], _ :: _ => by simp [PyData.eqvAll]
  | _ :: _, [] => by simp [PyData.eqvAll]
  | x :: a, y :: b => by
    simp only [List.map_cons, PyData.eqvAll, eqv_tx, eqvAll_txs a b]
    by_cases c1 : x = y <;> by_cases c2 : a = b <;> simp [c1, c2]
theorem eqv_q (a b : Bool) : PyData.eqv (.int (qi a)) (.int (qi b)) = decide (a = b) := by cases a <;> cases b <;> decide +kernel
theorem stt_eqv (s u : Stt) : PyData.eqv s.e u.e = decide (s = u) := by
  obtain ⟨t, b, q, o, p⟩ := s
  obtain ⟨t', b', q', o', p'⟩ := u
  simp only [Stt.e, PyData.eqv, PyData.eqvAll]
  have h1 := eqv_tx t t'
  have h2 := eqv_tx b b'
  have h3 := eqv_q q q'
  have h4 := eqvAll_txs o o'
  have h5 := eqv_tx p p'
  simp only [PyData.eqv] at h1 h2 h3 h5
  simp only [h1, h2, h3, h4, h5]
  by_cases c1 : t = t' <;> by_cases c2 : b = b' <;> by_cases c3 : q = q' <;> by_cases c4 : o = o' <;> by_cases c5 : p = p' <;> simp [c1, c2, c3, c4, c5]
theorem key_stt (s : Stt) : keyOk 8 s.e = true := by
  have : ∀ o : List Txt, (o.map tx).all (keyOk 6) = true := fun o => by
    rw [List.all_eq_true]
    intro x hx
    obtain ⟨a, _, rfl⟩ := List.mem_map.mp hx
    rfl
  simp [Stt.e, keyOk]
end FO

set_option Elab.async false
set_option linter.all false
set_option maxRecDepth 10000
set_option maxHeartbeats 1000000
namespace FO
open PySem L2
/-! ### views, plainly -/
abbrev Vu : Type := List Txt
def vP (w : Way) (s : Stt) (g : Bool) : Vu := if g then [s.p] else [s.t, offer w s, s.p]
def ve (g : Bool) (l : Vu) : PyData := if g then tx (l.headD []) else .tuple (l.map tx)
structure Wv (g : Bool) (l : Vu) : Prop where
  n : l.length = if g then 1 else 3
  t : ∀ x ∈ l, x.length ≤ 4
theorem ve_vP (w : Way) (s : Stt) (g : Bool) : viewE w s g = ve g (vP w s g) := by cases g <;> rfl
theorem ve_eqv {g : Bool} {a b : Vu} (ha : Wv g a) (hb : Wv g b) : PyData.eqv (ve g a) (ve g b) = decide (a = b) := by
  cases g with
  | false => exact eqvAll_txs a b
  | true =>
    have h1 : a.length = 1 := ha.n
    have h2 : b.length = 1 := hb.n
    match a, b, h1, h2 with
    | [x], [y], _, _ =>
      show PyData.eqv (tx x) (tx y) = _
      rw [eqv_tx]
      simp
theorem shp_ve (g : Bool) (l : Vu) : Shp 1 (ve g l) := by
  cases g with
  | false =>
    refine shp_tup fun x hx => ?_
    obtain ⟨a, _, rfl⟩ := List.mem_map.mp hx
    exact shp_tx 0 a
  | true => exact shp_tx 1 _
theorem ve_ne {g : Bool} {a b : Vu} (ha : Wv g a) (hb : Wv g b) : cmpD .ne (ve g a) (ve g b) = some (.bool (!decide (a = b))) := by
  rw [d_nev (shp_ve g a) (shp_ve g b) (by omega), ve_eqv ha hb]
theorem sts_us {w : Way} {ws : List Txt} (hw : Words ws) : ∀ (r : List Key) (s : Stt), Us w ws s → ∀ x ∈ sts w s r, Us w ws x
  | [], s, g, x, h => by
    have : x = s := by simpa [sts] using h
    exact this ▸ g
  | k :: r, s, g, x, h => by
    rcases List.mem_cons.mp (show x ∈ s :: sts w (stepP w s k) r from h) with e | h
    · exact e ▸ g
    · exact sts_us hw r _ (us_step hw g k) x h
def shV (w : Way) (ws : List Txt) (g : Bool) (r : List Key) : List Vu := (sts w (begin ws) r).tail.map fun s => vP w s g
theorem shown_eq (w : Way) (ws : List Txt) (g : Bool) (r : List Key) : shownP w ws g r = (shV w ws g r).map (ve g) := by
  unfold shownP shV
  rw [List.map_map]
  exact List.map_congr_left fun s _ => ve_vP w s g
theorem shV_len (w : Way) (ws : List Txt) (g : Bool) (r : List Key) : (shV w ws g r).length = r.length := by
  unfold shV
  rw [List.length_map, List.length_tail, sts_len]
  rfl
theorem shV_wv {w : Way} {ws : List Txt} {g : Bool} {r : List Key} (hw : Words ws) : ∀ l ∈ shV w ws g r, Wv g l := fun l hl => by
  obtain ⟨s, hs, rfl⟩ := List.mem_map.mp hl
  have u := sts_us hw r _ (us_begin w ws) s (List.mem_of_mem_tail hs)
  have h1 := u.tl
  have h2 := u.pl
  have h3 := gs_offer hw u.toGs
  rw [List.length_append] at h3
  cases g with
  | true =>
    refine ⟨rfl, fun x hx => ?_⟩
    have : x = s.p := by simpa [vP] using hx
    rw [this]
    exact h2
  | false =>
    refine ⟨rfl, fun x hx => ?_⟩
    have : x = s.t ∨ x = offer w s ∨ x = s.p := by simpa [vP] using hx
    rcases this with rfl | rfl | rfl <;> omega
/-! ### records -/
abbrev Rec : Type := List Key × List Vu
def re (g : Bool) (c : Rec) : PyData := .tuple [.list (c.1.map Key.e), .list (c.2.map (ve g))]
structure Rk (g : Bool) (c : Rec) : Prop where
  k : c.1.length ≤ 40
  n : c.2.length = c.1.length
  v : ∀ l ∈ c.2, Wv g l
def getV (l : List Vu) (k : Nat) : Vu := (l[k]?).getD []
theorem getV_mem {l : List Vu} {k : Nat} (h : k < l.length) : getV l k ∈ l := by
  unfold getV
  rw [List.getElem?_eq_getElem h]
  exact List.getElem_mem h
def bad (a b : List Vu) : List Nat := (List.range a.length).filter fun k => !decide (getV a k = getV b k)
def bar (w : Way) (ws : List Txt) (g : Bool) (c : Rec) : Option Nat := (bad (shV w ws g c.1) c.2).head?
def oI : Option Nat → PyData
  | none => .none
  | some k => .int (k : Nat)
theorem oI_non (o : Option Nat) : isNon (oI o) = o.isNone := by cases o <;> rfl
theorem shp_oI (n : Nat) (o : Option Nat) : Shp n (oI o) := by
  cases o with
  | none => exact shp_non n
  | some k => exact shp_int n _
theorem enz_eq {g : Bool} : ∀ (a b : List Vu) (c : Nat), a.length = b.length → enumD c (zipD (a.map (ve g)) (b.map (ve g))) = (List.range a.length).map fun k => PyData.tuple [.int ((c + k : Nat) : Int), .tuple [ve g (getV a k), ve g (getV b k)]]
  | [], [], c, _ => rfl
  | [], _ :: _, _, h => by simp at h
  | _ :: _, [], _, h => by simp at h
  | x :: a, y :: b, c, h => by
    rw [List.map_cons, List.map_cons, zipD, enumD, enz_eq a b (c + 1) (by simpa using h), List.length_cons, List.range_succ_eq_map, List.map_cons, List.map_map]
    refine congrArg (List.cons _) (List.map_congr_left fun k _ => ?_)
    show PyData.tuple [.int ((c + 1 + k : Nat) : Int), _] = PyData.tuple [.int ((c + (k + 1) : Nat) : Int), _]
    rw [show c + 1 + k = c + (k + 1) by omega]
    rfl
theorem enum_eq {α : Type} (f : α → PyData) (d : α) : ∀ (a : List α) (c : Nat), enumD c (a.map f) = (List.range a.length).map fun k => PyData.tuple [.int ((c + k : Nat) : Int), f ((a[k]?).getD d)]
  | [], c => rfl
  | x :: a, c => by
    rw [List.map_cons, enumD, enum_eq f d a (c + 1), List.length_cons, List.range_succ_eq_map, List.map_cons, List.map_map]
    refine congrArg (List.cons _) (List.map_congr_left fun k _ => ?_)
    show PyData.tuple [.int ((c + 1 + k : Nat) : Int), _] = PyData.tuple [.int ((c + (k + 1) : Nat) : Int), _]
    rw [show c + 1 + k = c + (k + 1) by omega]
    rfl
theorem enum0 {α : Type} (f : α → PyData) (d : α) (a : List α) : enumD 0 (a.map f) = (List.range a.length).map fun k => PyData.tuple [.int (k : Nat), f ((a[k]?).getD d)] := by
  rw [enum_eq f d a 0]
  refine List.map_congr_left fun k _ => ?_
  rw [show 0 + k = k by omega]
theorem ix0 (x : PyData) (r : List PyData) : ixD (.list (x :: r)) (.int 0) = some x := by
  rw [ix_l _ 0 (by omega)]
  rfl
theorem g_views : gcU 7 = some (.int 40) := rfl
section
variable {n : Nat} {S : Sto} {w : Way} {ws : List Txt} {g : Bool}
theorem all_true {α : Type} (l : List α) : biD .all (.list (l.map fun _ => PyData.bool true)) = some (.bool true) := d_allT l
theorem e_is_view (hn : 3 ≤ n) {l : Vu} (h : Wv g l) : FF n 93 [.d (ve g l), .d (.int (qi g))] S = .ok (.d (.bool true)) S := by
  obtain ⟨n, rfl, hm⟩ := pred_of hn
  show callB (PP n) FU fn_is_view _ _ = _
  refine call_ret rfl ?_
  show exSs (PP n) FU (sdrop 0 ir_is_view) [.val (.d (ve g l)), .val (.d (.int (qi g))), .un] S = _
  cases g with
  | true =>
    have h1 : l.length = 1 := h.n
    match l, h1, h with
    | [x], _, h =>
      have e := e_is_text (n := n) hm (S := S) x (h.t x (by simp))
      rw [ex_at 0 rfl]
      simp [qi, exSs_cons, ve, e]
  | false =>
    have hc := comp_all (P := PP n) (tg := .nm 2) (it := .e (.v 0)) (elt := .call 8 (.cons (.v 2) .nil)) (ρ := [.val (.d (ve false l)), .val (.d (.int (qi false))), .un]) (S := S) l tx (fun _ => .bool true) (by simp [ve]) (by have := h.n; simp at this; omega) (fun x hx => ⟨_, rfl, by simp [e_is_text (n := n) hm (S := S) x (h.t x hx)]⟩)
    have ht : tyD (ve false l) .tuple = some true := rfl
    have hl : biD .len (ve false l) = some (.int 3) := by
      show some (PyData.int ((l.map tx).length : Nat)) = _
      rw [List.length_map, show l.length = 3 from h.n]
      rfl
    rw [ex_skip 0 rfl (S' := S) (by simp [qi])]
    exact ex_ret 1 rfl (by simp [ht, hl, hc])
theorem e_is_view_row (hn : 4 ≤ n) {l : List Vu} (hl : l.length ≤ 40) (h : ∀ x ∈ l, Wv g x) : FF n 94 [.d (.list (l.map (ve g))), .d (.int (qi g))] S = .ok (.d (.bool true)) S := by
  obtain ⟨n, rfl, hm⟩ := pred_of hn
  show callB (PP n) FU fn_is_view_row _ _ = _
  refine call_ret rfl ?_
  show exSs (PP n) FU (sdrop 0 ir_is_view_row) [.val (.d (.list (l.map (ve g)))), .val (.d (.int (qi g))), .un] S = _
  have hc := comp_all (P := PP n) (tg := .nm 2) (it := .e (.v 0)) (elt := .call 93 (.cons (.v 2) (.cons (.v 1) .nil))) (ρ := [.val (.d (.list (l.map (ve g)))), .val (.d (.int (qi g))), .un]) (S := S) l (ve g) (fun _ => .bool true) (by simp) (by omega) (fun x hx => ⟨_, rfl, by simp [e_is_view (n := n) hm (S := S) (h x hx)]⟩)
  have hlt : ¬ (40 : Int) < (l.length : Int) := by omega
  rw [ex_skip 0 rfl (S' := S) (by simp [tyD, g_views, hlt])]
  exact ex_ret 1 rfl (by simp [hc])
theorem e_is_record (hn : 5 ≤ n) {c : Rec} (h : Rk g c) : FF n 95 [.d (re g c), .d (.int (qi g))] S = .ok (.d (.bool true)) S := by
  obtain ⟨n, rfl, hm⟩ := pred_of hn
  have e1 := e_is_row (n := n) (by omega) (S := S) c.1 h.k
  have e2 := e_is_view_row (n := n) hm (S := S) (g := g) (l := c.2) (by rw [h.n]; exact h.k) h.v
  have ht : tyD (re g c) .tuple = some true := rfl
  have hl : biD .len (re g c) = some (.int 2) := rfl
  have i0 : ixD (re g c) (.int 0) = some (.list (c.1.map Key.e)) := rfl
  have i1 : ixD (re g c) (.int 1) = some (.list (c.2.map (ve g))) := rfl
  show callB (PP n) FU fn_is_record _ _ = _
  refine call_ret rfl ?_
  show exSs (PP n) FU (sdrop 0 ir_is_record) [.val (.d (re g c)), .val (.d (.int (qi g)))] S = _
  rw [ex_skip 0 rfl (S' := S) (by simp [ht, hl, i0, e1])]
  exact ex_ret 1 rfl (by simp [i0, i1, e2, h.n])
abbrev rBo (w : Way) (ws : List Txt) (g : Bool) (c : Rec) (x4 x5 x6 : Sl) : Rho := [.val (.d w.e), .val (.d (.list (ws.map tx))), .val (.d (.int (qi g))), .val (.d (re g c)), x4, x5, x6]
theorem bloop {a b : List Vu} {c : Rec} (ha : ∀ l ∈ a, Wv g l) (hb : ∀ l ∈ b, Wv g l) (hl : b.length = a.length) : ∀ (ks : List Nat), (∀ k ∈ ks, k < a.length) → ∀ (x4 x5 x6 : Sl),
    (∀ k, (ks.filter fun k => !decide (getV a k = getV b k)).head? = some k → forL (loopB (PP n) FU (.tp (.cons (.nm 4) (.cons (.tp (.cons (.nm 5) (.cons (.nm 6) .nil))) .nil))) lb_bar_of_1) (ks.map fun k => PyData.tuple [.int (k : Nat), .tuple [ve g (getV a k), ve g (getV b k)]]) (rBo w ws g c x4 x5 x6) S = .ret (.d (.int (k : Nat))) S) ∧
    ((ks.filter fun k => !decide (getV a k = getV b k)).head? = none → ∃ y4 y5 y6, forL (loopB (PP n) FU (.tp (.cons (.nm 4) (.cons (.tp (.cons (.nm 5) (.cons (.nm 6) .nil))) .nil))) lb_bar_of_1) (ks.map fun k => PyData.tuple [.int (k : Nat), .tuple [ve g (getV a k), ve g (getV b k)]]) (rBo w ws g c x4 x5 x6) S = .next (rBo w ws g c y4 y5 y6) S)
  | [], _, x4, x5, x6 => ⟨fun k h => by simp at h, fun _ => ⟨x4, x5, x6, rfl⟩⟩
  | k :: ks, hk, x4, x5, x6 => by
    have hka := hk k List.mem_cons_self
    have wa := ha _ (getV_mem hka)
    have wb := hb _ (getV_mem (show k < b.length by omega))
    have hcm : ev (PP n) (.cmp .ne (.v 5) (.v 6)) (rBo w ws g c (.val (.d (.int (k : Nat)))) (.val (.d (ve g (getV a k)))) (.val (.d (ve g (getV b k))))) S = .ok (.d (.bool (!decide (getV a k = getV b k)))) S := by
      refine cmp_of (x := ve g (getV a k)) (y := ve g (getV b k)) (S1 := S) ?_ ?_ (ve_ne wa wb) <;> simp only [argm_v, ev_v, List.getElem?_cons_succ, List.getElem?_cons_zero]
    have ht : loopB (PP n) FU (.tp (.cons (.nm 4) (.cons (.tp (.cons (.nm 5) (.cons (.nm 6) .nil))) .nil))) lb_bar_of_1 (PyData.tuple [.int (k : Nat), .tuple [ve g (getV a k), ve g (getV b k)]]) (rBo w ws g c x4 x5 x6) S = exSs (PP n) FU (sdrop 0 lb_bar_of_1) (rBo w ws g c (.val (.d (.int (k : Nat)))) (.val (.d (ve g (getV a k)))) (.val (.d (ve g (getV b k))))) S := by
      simp [loopB]
      rfl
    obtain ⟨r1, r2⟩ := bloop ha hb hl ks (fun j hj => hk j (List.mem_cons_of_mem _ hj)) (.val (.d (.int (k : Nat)))) (.val (.d (ve g (getV a k)))) (.val (.d (ve g (getV b k))))
    by_cases e : getV a k = getV b k
    · rw [decide_eq_true e] at hcm
      have hf : ((k :: ks).filter fun k => !decide (getV a k = getV b k)) = ks.filter fun k => !decide (getV a k = getV b k) := by
        rw [List.filter_cons_of_neg]
        simp [e]
      rw [hf, List.map_cons, forL, ht, ex_skip 0 rfl hcm, ex_end 1 rfl, then_next]
      exact ⟨r1, r2⟩
    · rw [decide_eq_false e] at hcm
      have hf : ((k :: ks).filter fun k => !decide (getV a k = getV b k)) = k :: ks.filter fun k => !decide (getV a k = getV b k) := by
        rw [List.filter_cons_of_pos]
        simp [e]
      rw [hf, List.map_cons, forL, ht]
      refine ⟨fun j hj => ?_, fun h => by simp at h⟩
      have : j = k := by simpa using hj.symm
      subst this
      rw [ex_at 0 rfl, iff_b hcm]
      simp [exSs_cons]
theorem e_bar_of (hn : 7 ≤ n) (hw : Words ws) {c : Rec} (h : Rk g c) : FF n 96 [.d w.e, .d (.list (ws.map tx)), .d (.int (qi g)), .d (re g c)] S = .ok (.d (oI (bar w ws g c))) S := by
  obtain ⟨n, rfl, hm⟩ := pred_of hn
  have e1 := e_shown (n := n) hm (S := S) w ws g c.1 hw (by have := h.k; omega)
  rw [shown_eq] at e1
  have i0 : ixD (re g c) (.int 0) = some (.list (c.1.map Key.e)) := rfl
  have i1 : ixD (re g c) (.int 1) = some (.list (c.2.map (ve g))) := rfl
  have hl : c.2.length = (shV w ws g c.1).length := by rw [shV_len, h.n]
  have hz := enz_eq (g := g) (shV w ws g c.1) c.2 0 hl.symm
  simp only [Nat.zero_add] at hz
  obtain ⟨r1, r2⟩ := bloop (n := n) (S := S) (w := w) (ws := ws) (c := c) (shV_wv (w := w) (g := g) (r := c.1) hw) h.v hl (List.range (shV w ws g c.1).length) (fun k hk => List.mem_range.mp hk) .un .un .un
  have hi : evi (PP n) (.enz (.call 26 (.cons (.v 0) (.cons (.v 1) (.cons (.v 2) (.cons (.ix (.v 3) (.c (.int 0))) .nil))))) (.ix (.v 3) (.c (.int 1)))) (rBo w ws g c .un .un .un) S = .ok (enumD 0 (zipD ((shV w ws g c.1).map (ve g)) (c.2.map (ve g)))) S := by
    simp only [evi, ev_call, evs_cons, evs_nil, ev_v, ev_ix, argm_v, ev_c, List.getElem?_cons_succ, List.getElem?_cons_zero, bind_ok, ixW_dd, i0, i1, Option.map_some, lift_some, pp_fn, e1]
  show callB (PP n) FU fn_bar_of _ _ = _
  refine call_ret rfl ?_
  show exSs (PP n) FU (sdrop 0 ir_bar_of) (rBo w ws g c .un .un .un) S = _
  rw [ex_at 0 rfl, exS_for, show frzI (rBo w ws g c .un .un .un) (.enz (.call 26 (.cons (.v 0) (.cons (.v 1) (.cons (.v 2) (.cons (.ix (.v 3) (.c (.int 0))) .nil))))) (.ix (.v 3) (.c (.int 1)))) = rBo w ws g c .un .un .un from rfl, hi, of_ok, hz]
  cases hb : bar w ws g c with
  | some k =>
    rw [r1 k hb, then_ret]
    rfl
  | none =>
    obtain ⟨y4, y5, y6, r⟩ := r2 hb
    rw [r, then_next]
    exact ex_ret 1 rfl (by simp [oI])
theorem e_first_bar (hn : 8 ≤ n) (hw : Words ws) {c : Rec} (h : Rk g c) : FF n 97 [.d w.e, .d (.list (ws.map tx)), .d (.int (qi g)), .d (re g c)] S = .ok (.d (oI (bar w ws g c))) S := by
  obtain ⟨n, rfl, hm⟩ := pred_of hn
  have e1 := e_check_way (n := n) (by omega) (S := S) w
  have e2 := e_check_words (n := n) (by omega) (S := S) ws hw
  have e3 := e_check_sight (n := n) (by omega) (S := S) g
  have e4 := e_is_record (n := n) (by omega) (S := S) h
  have e5 := e_bar_of (n := n) hm (S := S) (w := w) hw h
  show callB (PP n) FU fn_first_bar _ _ = _
  refine call_ret rfl ?_
  simp [fn_first_bar, ir_first_bar, startR, exSs_cons, e1, e2, e3, e4, e5]
theorem e_made (hn : 9 ≤ n) (hw : Words ws) {c : Rec} (h : Rk g c) : FF n 98 [.d w.e, .d (.list (ws.map tx)), .d (.int (qi g)), .d (re g c)] S = .ok (.d (.bool (bar w ws g c).isNone)) S := by
  obtain ⟨n, rfl, hm⟩ := pred_of hn
  have e5 := e_first_bar (n := n) hm (S := S) (w := w) hw h
  show callB (PP n) FU fn_made _ _ = _
  refine call_ret rfl ?_
  simp [fn_made, ir_made, startR, exSs_cons, e5, cmpD, oI_non]
end
end FO

set_option Elab.async false
set_option linter.all false
set_option maxRecDepth 10000
set_option maxHeartbeats 1000000
namespace FO
open PySem L2
def wd : Way := ⟨.first, false, .tab, .next, .offer, false⟩
def getO (l : List (Option Nat)) (k : Nat) : Option Nat := (l[k]?).getD none
def getW (l : List Way) (k : Nat) : Way := (l[k]?).getD wd
/-- the places of those that are barred -/
def kbs (l : List (Option Nat)) : List Nat := (List.range l.length).filter fun k => (getO l k).isSome
def fb (l : List (Option Nat)) : PyData := match kbs l with
  | [] => .none
  | k :: _ => .tuple [.int (k : Nat), oI (getO l k)]
theorem fb_non (l : List (Option Nat)) : isNon (fb l) = decide (kbs l = []) := by
  unfold fb
  cases h : kbs l <;> simp [isNon]
theorem shp_fb (l : List (Option Nat)) : Shp 1 (fb l) := by
  unfold fb
  split
  · exact shp_non 1
  · exact shp_tup fun x hx => by
      simp only [List.mem_cons, List.not_mem_nil, or_false] at hx
      rcases hx with rfl | rfl
      · exact shp_int 0 _
      · exact shp_oI 0 _
/-- for each way: the first record that it did not make -/
def fbW (ws : List Txt) (g : Bool) (cs : List Rec) (w : Way) : PyData := fb (cs.map (bar w ws g))
def rem (ws : List Txt) (g : Bool) (cs : List Rec) (fam : List Way) : List Nat := (List.range fam.length).filter fun k => decide (kbs (cs.map (bar (getW fam k) ws g)) = [])
structure Fam (fam : List Way) : Prop where
  pos : 1 ≤ fam.length
  few : fam.length ≤ 8
section
variable {n : Nat} {S : Sto} {w : Way} {ws : List Txt} {g : Bool} {fam : List Way} {cs : List Rec}
theorem e_check_family (hn : 3 ≤ n) (h : Fam fam) : FF n 92 [.d (.list (fam.map Way.e))] S = .ok (.d .none) S := by
  obtain ⟨n, rfl, hm⟩ := pred_of hn
  have hc := comp_all (P := PP n) (tg := .nm 1) (it := .e (.v 0)) (elt := .call 23 (.cons (.v 1) .nil)) (ρ := [.val (.d (.list (fam.map Way.e))), .un]) (S := S) fam Way.e (fun _ => .bool true) (by simp) (by have := h.few; omega) (fun x hx => ⟨_, rfl, by simp [e_is_way (n := n) hm (S := S) x]⟩)
  have h1 : (1 : Int) ≤ (fam.length : Int) := by have := h.pos; omega
  have h2 : (fam.length : Int) ≤ 8 := by have := h.few; omega
  show callB (PP n) FU fn_check_family _ _ = _
  refine call_next rfl (ρ := [.val (.d (.list (fam.map Way.e))), .un]) ?_
  show exSs (PP n) FU (sdrop 0 ir_check_family) [.val (.d (.list (fam.map Way.e))), .un] S = _
  rw [ex_skip 0 rfl (S' := S) (by simp [tyD, h1, h2, hc])]
  exact ex_end 1 rfl
abbrev rBs (fam : List Way) (ws : List Txt) (g : Bool) (cs : List Rec) (x4 x5 x6 x7 x8 x9 x10 x11 : Sl) : Rho := [.val (.d (.list (fam.map Way.e))), .val (.d (.list (ws.map tx))), .val (.d (.int (qi g))), .val (.d (.list (cs.map (re g)))), x4, x5, x6, x7, x8, x9, x10, x11]
abbrev plD (l : List (Option Nat)) : PyData := .list (l.map oI)
abbrev kbD (l : List (Option Nat)) : PyData := .list ((kbs l).map fun k => PyData.tuple [.int (k : Nat), oI (getO l k)])
theorem shp_kb (l : List (Option Nat)) : Shp 2 (kbD l) := shp_map (fun k => shp_tup fun x hx => by
  simp only [List.mem_cons, List.not_mem_nil, or_false] at hx
  rcases hx with rfl | rfl
  · exact shp_int 0 _
  · exact shp_oI 0 _) _
theorem isnot_oI (o : Option Nat) : cmpD .isnot (oI o) .none = some (.bool o.isSome) := by
  cases o <;> rfl
theorem is_oI (o : Option Nat) : cmpD .is_ (oI o) .none = some (.bool o.isNone) := by
  cases o <;> rfl
theorem bturn (hn : 7 ≤ n) (hw : Words ws) (hcs : cs.length ≤ 12) (h : ∀ c ∈ cs, Rk g c) (acc : List PyData) (ha : acc.length ≤ 100) (w : Way) (x6 x7 x8 x9 x10 x11 : Sl) : ∃ y7 y9,
    loopB (PP n) FU (.nm 6) lb_bars_1 w.e (rBs fam ws g cs .un (.own acc) x6 x7 x8 x9 x10 x11) S = .next (rBs fam ws g cs .un (.own (acc ++ [fbW ws g cs w])) (.val (.d w.e)) y7 x8 y9 x10 x11) S := by
  have hc := comp_all (P := PP n) (tg := .nm 8) (it := .e (.v 3)) (elt := .call 96 (.cons (.v 6) (.cons (.v 1) (.cons (.v 2) (.cons (.v 8) .nil))))) (ρ := rBs fam ws g cs .un (.own acc) (.val (.d w.e)) x7 x8 x9 x10 x11) (S := S) cs (re g) (fun c => oI (bar w ws g c)) (by simp only [evi_e, argm_v, ev_v, List.getElem?_cons_succ, List.getElem?_cons_zero, bind_ok, l_items, lift_some]) (by omega) (fun c hc => ⟨rBs fam ws g cs .un (.own acc) (.val (.d w.e)) x7 (.val (.d (re g c))) x9 x10 x11, rfl, by
    have e := e_bar_of (n := n) hn (S := S) (w := w) hw (h c hc)
    simp only [ev_call, evs_cons, evs_nil, ev_v, List.getElem?_cons_succ, List.getElem?_cons_zero, bind_ok, pp_fn, e]⟩)
  have ep : (cs.map fun c => oI (bar w ws g c)) = (cs.map (bar w ws g)).map oI := by rw [List.map_map]; rfl
  rw [ep] at hc
  unfold fbW
  have hpl : (cs.map (bar w ws g)).length ≤ 12 := by rw [List.length_map]; exact hcs
  generalize cs.map (bar w ws g) = pl at hc hpl ⊢
  have hz := enum0 oI none pl
  have hb := comp_if (P := PP n) (tg := .tp (.cons (.nm 10) (.cons (.nm 11) .nil))) (it := .enum (.v 7)) (test := .cmp .isnot (.v 11) (.c (.none))) (elt := .tup (.cons (.v 10) (.cons (.v 11) .nil))) (ρ := rBs fam ws g cs .un (.own acc) (.val (.d w.e)) (.val (.d (plD pl))) x8 x9 x10 x11) (S := S) (List.range pl.length) (fun k => PyData.tuple [.int (k : Nat), oI (getO pl k)]) (fun k => (getO pl k).isSome) (fun k => PyData.tuple [.int (k : Nat), oI (getO pl k)]) (by
      rw [evi_enum]
      simp only [argm_v, ev_v, List.getElem?_cons_succ, List.getElem?_cons_zero, bind_ok]
      show Res.lift S (some (enumD 0 (pl.map oI))) = _
      rw [hz]
      rfl) (by rw [List.length_range]; omega) (fun k _ => ⟨rBs fam ws g cs .un (.own acc) (.val (.d w.e)) (.val (.d (plD pl))) x8 x9 (.val (.d (.int (k : Nat)))) (.val (.d (oI (getO pl k)))), rfl, by
      refine cmp_of (x := oI (getO pl k)) (y := .none) (S1 := S) ?_ ?_ (isnot_oI _)
      · simp only [argm_v, ev_v, List.getElem?_cons_succ, List.getElem?_cons_zero]
      · rw [argm_c, ev_c], fun _ => by
      simp only [ev_tup, evs_cons, evs_nil, ev_v, List.getElem?_cons_succ, List.getElem?_cons_zero, bind_ok, mkTup_eq, List.length_cons, List.length_nil, show Nat.ble (0 + 1 + 1) lim = true from rfl, if_true, allD_cons, allD_nil, Option.map_some]⟩)
  refine ⟨.val (.d (plD pl)), .val (.d (kbD pl)), ?_⟩
  simp only [loopB, asgT]
  show exSs (PP n) FU (sdrop 0 lb_bars_1) (rBs fam ws g cs .un (.own acc) (.val (.d w.e)) x7 x8 x9 x10 x11) S = _
  rw [ex_next 0 rfl (ρ' := rBs fam ws g cs .un (.own acc) (.val (.d w.e)) (.val (.d (plD pl))) x8 x9 x10 x11) (S' := S) (by
    rw [exS_asg, frzE_comp, hc, of_ok]
    rfl)]
  rw [ex_next 1 rfl (ρ' := rBs fam ws g cs .un (.own acc) (.val (.d w.e)) (.val (.d (plD pl))) x8 (.val (.d (kbD pl))) x10 x11) (S' := S) (by
    rw [exS_asg, frzE_comp, hb, of_ok]
    rfl)]
  have hne : ev (PP n) (.cmp .ne (.v 9) (.lst .nil)) (rBs fam ws g cs .un (.own acc) (.val (.d w.e)) (.val (.d (plD pl))) x8 (.val (.d (kbD pl))) x10 x11) S = .ok (.d (.bool (!decide (kbs pl = [])))) S := by
    refine cmp_of (x := kbD pl) (y := .list []) (S1 := S) ?_ (by rfl) ?_
    · simp only [argm_v, ev_v, List.getElem?_cons_succ, List.getElem?_cons_zero]
    · rw [d_nev (shp_kb pl) (shp_lst fun x hx => by cases hx) (by omega), eqv_nil]
  have hv : ev (PP n) (.ife (.cmp .ne (.v 9) (.lst .nil)) (.ix (.v 9) (.c (.int 0))) (.c (.none))) (rBs fam ws g cs .un (.own acc) (.val (.d w.e)) (.val (.d (plD pl))) x8 (.val (.d (kbD pl))) x10 x11) S = .ok (.d (fb pl)) S := by
    rw [ev_ife, hne, truth_ok]
    unfold fb
    cases hk : kbs pl with
    | nil =>
      rw [decide_eq_true rfl]
      rfl
    | cons k r =>
      rw [decide_eq_false (by simp)]
      simp only [Bool.not_false, if_true, ev_ix, argm_v, ev_v, ev_c, List.getElem?_cons_succ, List.getElem?_cons_zero, bind_ok, ixW_dd]
      unfold kbD
      rw [hk, List.map_cons, ix0]
      rfl
  rw [ex_next 2 rfl (ρ' := rBs fam ws g cs .un (.own (acc ++ [fb pl])) (.val (.d w.e)) (.val (.d (plD pl))) x8 (.val (.d (kbD pl))) x10 x11) (S' := S) (by
    have hl3 : Nat.blt acc.length lim = true := Nat.ble_eq_true_of_le (show acc.length + 1 ≤ 1000000 by omega)
    rw [exS_app, frzE_ife]
    simp only [List.getElem?_cons_succ, List.getElem?_cons_zero, hv, of_ok, hl3, if_true]
    rfl)]
  exact ex_end 3 rfl
theorem bsloop (hn : 7 ≤ n) (hw : Words ws) (hcs : cs.length ≤ 12) (h : ∀ c ∈ cs, Rk g c) : ∀ (l : List Way) (acc : List PyData), acc.length + l.length ≤ 100 → ∀ (x6 x7 x8 x9 x10 x11 : Sl), ∃ y6 y7 y9,
    forL (loopB (PP n) FU (.nm 6) lb_bars_1) (l.map Way.e) (rBs fam ws g cs .un (.own acc) x6 x7 x8 x9 x10 x11) S = .next (rBs fam ws g cs .un (.own (acc ++ l.map (fbW ws g cs))) y6 y7 x8 y9 x10 x11) S
  | [], acc, _, x6, x7, x8, x9, x10, x11 => ⟨x6, x7, x9, by rw [List.map_nil, List.map_nil, List.append_nil]; rfl⟩
  | w :: l, acc, hl, x6, x7, x8, x9, x10, x11 => by
    rw [List.length_cons] at hl
    obtain ⟨y7, y9, e⟩ := bturn (n := n) (S := S) (fam := fam) hn hw hcs h acc (by omega) w x6 x7 x8 x9 x10 x11
    obtain ⟨z6, z7, z9, e2⟩ := bsloop hn hw hcs h l (acc ++ [fbW ws g cs w]) (by rw [List.length_append, List.length_singleton]; omega) (.val (.d w.e)) y7 x8 y9 x10 x11
    refine ⟨z6, z7, z9, ?_⟩
    rw [List.map_cons, forL, e, then_next, e2, List.append_assoc]
    rfl
theorem e_bars (hn : 8 ≤ n) (hw : Words ws) (hf : Fam fam) (h1 : 1 ≤ cs.length) (hcs : cs.length ≤ 12) (h : ∀ c ∈ cs, Rk g c) : FF n 99 [.d (.list (fam.map Way.e)), .d (.list (ws.map tx)), .d (.int (qi g)), .d (.list (cs.map (re g)))] S = .ok (.d (.list (fam.map (fbW ws g cs)))) S := by
  obtain ⟨n, rfl, hm⟩ := pred_of hn
  have e1 := e_check_family (n := n) (by omega) (S := S) hf
  have e2 := e_check_words (n := n) (by omega) (S := S) ws hw
  have e3 := e_check_sight (n := n) (by omega) (S := S) g
  have hc := comp_all (P := PP n) (tg := .nm 4) (it := .e (.v 3)) (elt := .call 95 (.cons (.v 4) (.cons (.v 2) .nil))) (ρ := rBs fam ws g cs .un .un .un .un .un .un .un .un) (S := S) cs (re g) (fun _ => .bool true) (by simp only [evi_e, argm_v, ev_v, List.getElem?_cons_succ, List.getElem?_cons_zero, bind_ok, l_items, lift_some]) (by omega) (fun c hc => ⟨rBs fam ws g cs (.val (.d (re g c))) .un .un .un .un .un .un .un, rfl, by
    have e := e_is_record (n := n) (by omega) (S := S) (h c hc)
    simp only [ev_call, evs_cons, evs_nil, ev_v, List.getElem?_cons_succ, List.getElem?_cons_zero, bind_ok, pp_fn, e]⟩)
  obtain ⟨y6, y7, y9, eb⟩ := bsloop (n := n) (S := S) (fam := fam) hm hw hcs h fam [] (by have := hf.few; simp; omega) .un .un .un .un .un .un
  have q1 : (1 : Int) ≤ (cs.length : Int) := by omega
  have q2 : (cs.length : Int) ≤ 12 := by omega
  show callB (PP n) FU fn_bars _ _ = _
  refine call_ret rfl ?_
  show exSs (PP n) FU (sdrop 0 ir_bars) (rBs fam ws g cs .un .un .un .un .un .un .un .un) S = _
  rw [ex_next 0 rfl (ρ' := rBs fam ws g cs .un .un .un .un .un .un .un .un) (S' := S) (by simp only [exS_expr, ev_call, evs_cons, evs_nil, ev_v, List.getElem?_cons_succ, List.getElem?_cons_zero, bind_ok, pp_fn, e1, of_ok])]
  rw [ex_next 1 rfl (ρ' := rBs fam ws g cs .un .un .un .un .un .un .un .un) (S' := S) (by simp only [exS_expr, ev_call, evs_cons, evs_nil, ev_v, List.getElem?_cons_succ, List.getElem?_cons_zero, bind_ok, pp_fn, e2, of_ok])]
  rw [ex_next 2 rfl (ρ' := rBs fam ws g cs .un .un .un .un .un .un .un .un) (S' := S) (by simp only [exS_expr, ev_call, evs_cons, evs_nil, ev_v, List.getElem?_cons_succ, List.getElem?_cons_zero, bind_ok, pp_fn, e3, of_ok])]
  rw [ex_skip 3 rfl (S' := S) (by simp [tyD, q1, q2])]
  rw [ex_skip 4 rfl (S' := S) (not_b (k := true) (by
    rw [ev_bi, argm_comp, hc, data_ok, d_allT]
    rfl))]
  rw [ex_next 5 rfl (ρ' := rBs fam ws g cs .un (.own []) .un .un .un .un .un .un) (S' := S) (by rfl)]
  rw [ex_next 6 rfl (ρ' := rBs fam ws g cs .un (.own (fam.map (fbW ws g cs))) y6 y7 .un y9 .un .un) (S' := S) (by
    rw [exS_for, frzI_e, frzE_v, frzAt_eq]
    simp only [List.getElem?_cons_succ, List.getElem?_cons_zero, evi_e, argm_v, ev_v, bind_ok, l_items, lift_some, of_ok]
    rw [eb, List.nil_append])]
  exact ex_ret 7 rfl (by
    simp only [exS_ret, frzE_v, frzAt_eq, List.getElem?_cons_succ, List.getElem?_cons_zero, List.set_cons_succ, List.set_cons_zero, ev_v, of_ok])
theorem e_remains (hn : 9 ≤ n) (hw : Words ws) (hf : Fam fam) (h1 : 1 ≤ cs.length) (hcs : cs.length ≤ 12) (h : ∀ c ∈ cs, Rk g c) : FF n 100 [.d (.list (fam.map Way.e)), .d (.list (ws.map tx)), .d (.int (qi g)), .d (.list (cs.map (re g)))] S = .ok (.d (.list ((rem ws g cs fam).map fun k => PyData.int (k : Nat)))) S := by
  obtain ⟨n, rfl, hm⟩ := pred_of hn
  have e1 := e_bars (n := n) (S := S) hm hw hf h1 hcs h
  have hz := enum0 (fbW ws g cs) wd fam
  have hc := comp_if (P := PP n) (tg := .tp (.cons (.nm 4) (.cons (.nm 5) .nil))) (it := .enum (.call 99 (.cons (.v 0) (.cons (.v 1) (.cons (.v 2) (.cons (.v 3) .nil)))))) (test := .cmp .is_ (.v 5) (.c (.none))) (elt := .v 4) (ρ := [.val (.d (.list (fam.map Way.e))), .val (.d (.list (ws.map tx))), .val (.d (.int (qi g))), .val (.d (.list (cs.map (re g)))), .un, .un]) (S := S) (List.range fam.length) (fun k => PyData.tuple [.int (k : Nat), fbW ws g cs (getW fam k)]) (fun k => decide (kbs (cs.map (bar (getW fam k) ws g)) = [])) (fun k => PyData.int (k : Nat)) (by
      rw [evi_enum]
      simp only [argm_call, ev_call, evs_cons, evs_nil, ev_v, List.getElem?_cons_succ, List.getElem?_cons_zero, bind_ok, pp_fn, e1]
      show Res.lift S (some (enumD 0 (fam.map (fbW ws g cs)))) = _
      rw [hz]
      rfl) (by rw [List.length_range]; have := hf.few; omega) (fun k _ => ⟨[.val (.d (.list (fam.map Way.e))), .val (.d (.list (ws.map tx))), .val (.d (.int (qi g))), .val (.d (.list (cs.map (re g)))), .val (.d (.int (k : Nat))), .val (.d (fbW ws g cs (getW fam k)))], rfl, by
      refine cmp_of (x := fbW ws g cs (getW fam k)) (y := .none) (S1 := S) ?_ ?_ ?_
      · simp only [argm_v, ev_v, List.getElem?_cons_succ, List.getElem?_cons_zero]
      · rw [argm_c, ev_c]
      · show some (PyData.bool (isNon (fb _))) = _
        rw [fb_non], fun _ => by simp only [ev_v, List.getElem?_cons_succ, List.getElem?_cons_zero]⟩)
  show callB (PP n) FU fn_remains _ _ = _
  refine call_ret rfl ?_
  show exSs (PP n) FU (sdrop 0 ir_remains) [.val (.d (.list (fam.map Way.e))), .val (.d (.list (ws.map tx))), .val (.d (.int (qi g))), .val (.d (.list (cs.map (re g)))), .un, .un] S = _
  refine ex_ret 0 rfl ?_
  rw [exS_ret, frzE_comp, hc, of_ok]
  rfl
end
end FO

set_option Elab.async false
set_option linter.all false
set_option maxRecDepth 10000
set_option maxHeartbeats 1000000
namespace FO
open PySem L2
/-! ### groups of equal things -/
abbrev Th : Type := List Vu
def te (g : Bool) (x : Th) : PyData := .list (x.map (ve g))
def getT (l : List Th) (k : Nat) : Th := (l[k]?).getD []
theorem getT_mem {l : List Th} {k : Nat} (h : k < l.length) : getT l k ∈ l := by
  unfold getT
  rw [List.getElem?_eq_getElem h]
  exact List.getElem_mem h
theorem eqv_ves {g : Bool} : ∀ {a b : List Vu}, (∀ l ∈ a, Wv g l) → (∀ l ∈ b, Wv g l) → PyData.eqvAll (a.map (ve g)) (b.map (ve g)) = decide (a = b)
  | [], [], _, _ => by simp [PyData.eqvAll]
  | [], _ :: _, _, _ => by simp [PyData.eqvAll]
  | _ :: _, [], _, _ => by simp [PyData.eqvAll]
  | x :: a, y :: b, ha, hb => by
    simp only [List.map_cons, PyData.eqvAll]
    rw [ve_eqv (ha x List.mem_cons_self) (hb y List.mem_cons_self), eqv_ves (fun l hl => ha l (List.mem_cons_of_mem _ hl)) fun l hl => hb l (List.mem_cons_of_mem _ hl)]
    by_cases c1 : x = y <;> by_cases c2 : a = b <;> simp [c1, c2]
def Wt (g : Bool) (x : Th) : Prop := ∀ l ∈ x, Wv g l
theorem te_eqv {g : Bool} {a b : Th} (ha : Wt g a) (hb : Wt g b) : PyData.eqv (te g a) (te g b) = decide (a = b) := eqv_ves ha hb
theorem shp_te (g : Bool) (x : Th) : Shp 2 (te g x) := shp_map (shp_ve g) x
theorem te_eq {g : Bool} {a b : Th} (ha : Wt g a) (hb : Wt g b) : cmpD .eq (te g a) (te g b) = some (.bool (decide (a = b))) := by
  rw [d_eqv (shp_te g a) (shp_te g b) (by omega), te_eqv ha hb]
theorem te_notin {g : Bool} {a : Th} {l : List Th} (ha : Wt g a) (hl : ∀ b ∈ l, Wt g b) : cmpD .notin (te g a) (.list (l.map (te g))) = some (.bool (!decide (a ∈ l))) := by
  have h1 : SeqAt.shaped (te g a) = true := (shp_te g a).ok (by omega)
  have h2 : SeqAt.shaped (.list (l.map (te g))) = true := (shp_map (shp_te g) l).ok (by omega)
  have h3 : ((l.map (te g)).any fun z => PyData.eqv z (te g a)) = decide (a ∈ l) := by
    clear h2
    induction l with
    | nil => simp
    | cons b r ih =>
      rw [List.map_cons, List.any_cons, ih fun x hx => hl x (List.mem_cons_of_mem _ hx), te_eqv (hl b List.mem_cons_self) ha]
      by_cases c : b = a
      · simp [c]
      · have c' : ¬ a = b := fun e => c e.symm
        simp [c, c']
  unfold te at *
  simp only [cmpD, h1, h2, Bool.and_self, if_true, h3]
def fst (th : List Th) : List Nat := (List.range th.length).filter fun k => !decide (getT th k ∈ th.take k)
def grp (th : List Th) (x : Th) : List Nat := (List.range th.length).filter fun k => decide (getT th k = x)
abbrev nI (l : List Nat) : PyData := .list (l.map fun k => PyData.int (k : Nat))
def grD (th : List Th) : List PyData := (fst th).map fun j => nI (grp th (getT th j))
theorem ix_te {g : Bool} {th : List Th} {k : Nat} (h : k < th.length) : ixD (.list (th.map (te g))) (.int (k : Nat)) = some (te g (getT th k)) := by
  show atI _ _ = _
  rw [at_nat, List.getElem?_map, List.getElem?_eq_getElem h]
  unfold getT
  rw [List.getElem?_eq_getElem h]
  rfl
theorem sl_te {g : Bool} {th : List Th} {k : Nat} : slD (.list (th.map (te g))) none (some (k : Int)) = some (.list ((th.take k).map (te g))) := by
  show some (PyData.list (cutD _ none (some (k : Int)))) = _
  rw [cut_to, List.map_take]
section
variable {n : Nat} {S : Sto} {w : Way} {ws : List Txt} {g : Bool} {fam : List Way} {th : List Th}
abbrev rG (g : Bool) (th : List Th) (acc : List PyData) (x2 x3 x4 : Sl) : Rho := [.val (.d (.list (th.map (te g)))), .own acc, x2, x3, x4]
theorem gturn (hl : th.length ≤ 100) (hw : ∀ x ∈ th, Wt g x) (acc : List PyData) (ha : acc.length ≤ 100) {k : Nat} (hk : k < th.length) (x2 x3 x4 : Sl) :
    loopB (PP n) FU (.tp (.cons (.nm 2) (.cons (.nm 3) .nil))) lb_groups_by_1 (PyData.tuple [.int (k : Nat), te g (getT th k)]) (rG g th acc x2 x3 x4) S = .next (rG g th (if !decide (getT th k ∈ th.take k) then acc ++ [nI (grp th (getT th k))] else acc) (.val (.d (.int (k : Nat)))) (.val (.d (te g (getT th k)))) x4) S := by
  have wk := hw _ (getT_mem hk)
  have ht : loopB (PP n) FU (.tp (.cons (.nm 2) (.cons (.nm 3) .nil))) lb_groups_by_1 (PyData.tuple [.int (k : Nat), te g (getT th k)]) (rG g th acc x2 x3 x4) S = exSs (PP n) FU (sdrop 0 lb_groups_by_1) (rG g th acc (.val (.d (.int (k : Nat)))) (.val (.d (te g (getT th k)))) x4) S := by
    simp [loopB]
    rfl
  have hcm : ev (PP n) (.cmp .notin (.v 3) (.sl (.v 0) (.c .none) (.v 2))) (rG g th acc (.val (.d (.int (k : Nat)))) (.val (.d (te g (getT th k)))) x4) S = .ok (.d (.bool (!decide (getT th k ∈ th.take k)))) S := by
    refine cmp_of (x := te g (getT th k)) (y := .list ((th.take k).map (te g))) (S1 := S) ?_ ?_ (te_notin wk fun b hb => hw b (List.mem_of_mem_take hb))
    · simp only [argm_v, ev_v, List.getElem?_cons_succ, List.getElem?_cons_zero]
    · simp only [argm_sl, ev_sl, argm_v, ev_v, ev_c, List.getElem?_cons_succ, List.getElem?_cons_zero, bind_ok, bnd_non, bnd_int, lift_some, vw_d, Option.bind_some, sl_te, Option.map_some]
  rw [ht]
  by_cases c : getT th k ∈ th.take k
  · rw [decide_eq_true c] at hcm ⊢
    rw [ex_skip 0 rfl hcm]
    exact ex_end 1 rfl
  · rw [decide_eq_false c] at hcm ⊢
    have hc := comp_if (P := PP n) (tg := .nm 4) (it := .rng (.c (.int 0)) (.bi .len (.v 0))) (test := .cmp .eq (.ix (.v 0) (.v 4)) (.v 3)) (elt := .v 4) (ρ := rG g th acc (.val (.d (.int (k : Nat)))) (.val (.d (te g (getT th k)))) x4) (S := S) (List.range th.length) (fun (j : Nat) => PyData.int j) (fun j => decide (getT th j = getT th k)) (fun (j : Nat) => PyData.int j) (by
        refine rng_of (x := .int 0) (y := .int (th.length : Nat)) (S1 := S) (S2 := S) (by rw [ev_c]) ?_ (rng_to S th.length (by omega))
        simp only [ev_bi, argm_v, ev_v, List.getElem?_cons_succ, List.getElem?_cons_zero, data_ok, l_len, List.length_map, Option.map_some, lift_some]) (by rw [List.length_range]; omega) (fun j hj => ⟨rG g th acc (.val (.d (.int (k : Nat)))) (.val (.d (te g (getT th k)))) (.val (.d (.int (j : Nat)))), rfl, by
        have hj := List.mem_range.mp hj
        refine cmp_of (x := te g (getT th j)) (y := te g (getT th k)) (S1 := S) ?_ ?_ (te_eq (hw _ (getT_mem hj)) wk)
        · simp only [argm_ix, ev_ix, argm_v, ev_v, List.getElem?_cons_succ, List.getElem?_cons_zero, bind_ok, ixW_dd, ix_te hj, Option.map_some, lift_some]
        · simp only [argm_v, ev_v, List.getElem?_cons_succ, List.getElem?_cons_zero], fun _ => by simp only [ev_v, List.getElem?_cons_succ, List.getElem?_cons_zero]⟩)
    have hl3 : Nat.blt acc.length lim = true := Nat.ble_eq_true_of_le (show acc.length + 1 ≤ 1000000 by omega)
    rw [ex_at 0 rfl, iff_b hcm]
    simp only [Bool.not_false, if_true]
    rw [exSs_cons, exS_app, frzE_comp]
    simp only [List.getElem?_cons_succ, List.getElem?_cons_zero, hc, of_ok, hl3, if_true, then_next, exSs_nil]
    rw [show exSs (PP n) FU (sdrop (0 + 1) lb_groups_by_1) = exSs (PP n) FU .nil from rfl, exSs_nil]
    rfl
theorem gloop (hl : th.length ≤ 100) (hw : ∀ x ∈ th, Wt g x) : ∀ (ks : List Nat) (acc : List PyData), (∀ k ∈ ks, k < th.length) → acc.length + ks.length ≤ 100 → ∀ (x2 x3 x4 : Sl), ∃ y2 y3,
    forL (loopB (PP n) FU (.tp (.cons (.nm 2) (.cons (.nm 3) .nil))) lb_groups_by_1) (ks.map fun k => PyData.tuple [.int (k : Nat), te g (getT th k)]) (rG g th acc x2 x3 x4) S = .next (rG g th (acc ++ (ks.filter fun k => !decide (getT th k ∈ th.take k)).map fun j => nI (grp th (getT th j))) y2 y3 x4) S
  | [], acc, _, _, x2, x3, x4 => ⟨x2, x3, by rw [List.filter_nil, List.map_nil, List.map_nil, List.append_nil]; rfl⟩
  | k :: ks, acc, hk, ha, x2, x3, x4 => by
    rw [List.length_cons] at ha
    have e := gturn (n := n) (S := S) hl hw acc (by omega) (hk k List.mem_cons_self) x2 x3 x4
    have ha2 : (if !decide (getT th k ∈ th.take k) then acc ++ [nI (grp th (getT th k))] else acc).length + ks.length ≤ 100 := by
      split
      · rw [List.length_append, List.length_singleton]; omega
      · omega
    obtain ⟨y2, y3, e2⟩ := gloop hl hw ks (if !decide (getT th k ∈ th.take k) then acc ++ [nI (grp th (getT th k))] else acc) (fun j hj => hk j (List.mem_cons_of_mem _ hj)) ha2 (.val (.d (.int (k : Nat)))) (.val (.d (te g (getT th k)))) x4
    refine ⟨y2, y3, ?_⟩
    rw [List.map_cons, forL, e, then_next, e2]
    by_cases c : getT th k ∈ th.take k
    · rw [List.filter_cons_of_neg (by simp [c])]
      simp [c]
    · rw [List.filter_cons_of_pos (by simp [c])]
      simp [c]
theorem e_groups_by (hn : 1 ≤ n) (hl : th.length ≤ 50) (hw : ∀ x ∈ th, Wt g x) : FF n 101 [.d (.list (th.map (te g)))] S = .ok (.d (.list (grD th))) S := by
  obtain ⟨n, rfl, hm⟩ := pred_of hn
  obtain ⟨y2, y3, e⟩ := gloop (n := n) (S := S) (g := g) (th := th) (by omega) hw (List.range th.length) [] (fun k hk => List.mem_range.mp hk) (by rw [List.length_range, List.length_nil]; omega) .un .un .un
  have hz := enum0 (te g) [] th
  show callB (PP n) FU fn_groups_by _ _ = _
  refine call_ret rfl ?_
  show exSs (PP n) FU (sdrop 0 ir_groups_by) [.val (.d (.list (th.map (te g)))), .un, .un, .un, .un] S = _
  rw [ex_next 0 rfl (ρ' := rG g th [] .un .un .un) (S' := S) (by rfl)]
  rw [ex_next 1 rfl (ρ' := rG g th (grD th) y2 y3 .un) (S' := S) (by
    rw [exS_for, frzI_enum, frzE_v, frzAt_eq]
    simp only [List.getElem?_cons_succ, List.getElem?_cons_zero, evi_enum, argm_v, ev_v, bind_ok]
    rw [show Res.lift S ((itemsE (.list (th.map (te g)))).map (enumD 0)) = .ok (enumD 0 (th.map (te g))) S from rfl, of_ok, hz]
    exact e)]
  exact ex_ret 2 rfl (by
    simp only [exS_ret, frzE_v, frzAt_eq, List.getElem?_cons_succ, List.getElem?_cons_zero, List.set_cons_succ, List.set_cons_zero, ev_v, of_ok])
theorem e_check_all (hn : 4 ≤ n) (hw : Words ws) (hf : Fam fam) : FF n 102 [.d (.list (fam.map Way.e)), .d (.list (ws.map tx)), .d (.int (qi g))] S = .ok (.d .none) S := by
  obtain ⟨n, rfl, hm⟩ := pred_of hn
  have e1 := e_check_family (n := n) (by omega) (S := S) hf
  have e2 := e_check_words (n := n) (by omega) (S := S) ws hw
  have e3 := e_check_sight (n := n) (by omega) (S := S) g
  show callB (PP n) FU fn_check_all _ _ = _
  refine call_next rfl (ρ := [.val (.d (.list (fam.map Way.e))), .val (.d (.list (ws.map tx))), .val (.d (.int (qi g)))]) ?_
  simp [fn_check_all, ir_check_all, startR, exSs_cons, e1, e2, e3]
/-- what the ways show for a row -/
def shF (ws : List Txt) (g : Bool) (r : List Key) (fam : List Way) : List Th := fam.map fun w => shV w ws g r
theorem shF_wt (hw : Words ws) (r : List Key) : ∀ x ∈ shF ws g r fam, Wt g x := fun x hx => by
  obtain ⟨w, _, rfl⟩ := List.mem_map.mp hx
  exact shV_wv hw
theorem e_groups (hn : 7 ≤ n) (hw : Words ws) (hf : Fam fam) (r : List Key) (hr : r.length ≤ 40) : FF n 103 [.d (.list (fam.map Way.e)), .d (.list (ws.map tx)), .d (.int (qi g)), .d (.list (r.map Key.e))] S = .ok (.d (.list (grD (shF ws g r fam)))) S := by
  obtain ⟨n, rfl, hm⟩ := pred_of hn
  have e1 := e_check_all (n := n) (S := S) (g := g) (by omega) hw hf
  have e2 := e_check_row (n := n) (by omega) (S := S) r hr
  have e3 := e_groups_by (n := n) (S := S) (g := g) (th := shF ws g r fam) (by omega) (by unfold shF; rw [List.length_map]; have := hf.few; omega) (shF_wt hw r)
  have hc := comp_all (P := PP n) (tg := .nm 4) (it := .e (.v 0)) (elt := .call 26 (.cons (.v 4) (.cons (.v 1) (.cons (.v 2) (.cons (.v 3) .nil))))) (ρ := [.val (.d (.list (fam.map Way.e))), .val (.d (.list (ws.map tx))), .val (.d (.int (qi g))), .val (.d (.list (r.map Key.e))), .un]) (S := S) fam Way.e (fun w => te g (shV w ws g r)) (by simp) (by have := hf.few; omega) (fun w _ => ⟨_, rfl, by
    have e := e_shown (n := n) hm (S := S) w ws g r hw (by omega)
    rw [shown_eq] at e
    simp [e, te]⟩)
  have em : (fam.map fun w => te g (shV w ws g r)) = (shF ws g r fam).map (te g) := by unfold shF; rw [List.map_map]; rfl
  rw [em] at hc
  show callB (PP n) FU fn_groups _ _ = _
  refine call_ret rfl ?_
  show exSs (PP n) FU (sdrop 0 ir_groups) [.val (.d (.list (fam.map Way.e))), .val (.d (.list (ws.map tx))), .val (.d (.int (qi g))), .val (.d (.list (r.map Key.e))), .un] S = _
  rw [ex_next 0 rfl (ρ' := [.val (.d (.list (fam.map Way.e))), .val (.d (.list (ws.map tx))), .val (.d (.int (qi g))), .val (.d (.list (r.map Key.e))), .un]) (S' := S) (by simp only [exS_expr, ev_call, evs_cons, evs_nil, ev_v, List.getElem?_cons_succ, List.getElem?_cons_zero, bind_ok, pp_fn, e1, of_ok])]
  rw [ex_next 1 rfl (ρ' := [.val (.d (.list (fam.map Way.e))), .val (.d (.list (ws.map tx))), .val (.d (.int (qi g))), .val (.d (.list (r.map Key.e))), .un]) (S' := S) (by simp only [exS_expr, ev_call, evs_cons, evs_nil, ev_v, List.getElem?_cons_succ, List.getElem?_cons_zero, bind_ok, pp_fn, e2, of_ok])]
  exact ex_ret 2 rfl (by simp only [exS_ret, frzE_call, ev_call, evs_cons, evs_nil, hc, bind_ok, pp_fn, e3, of_ok])
end
/-! ### plainly: the group of a place -/
theorem mem_grp {th : List Th} {x : Th} {k : Nat} : k ∈ grp th x ↔ k < th.length ∧ getT th k = x := by
  unfold grp
  rw [List.mem_filter, List.mem_range]
  simp
/-- the first place of a thing -/
theorem fst_of {th : List Th} {h : Nat} (hh : h < th.length) : ∃ j ∈ fst th, getT th j = getT th h := by
  have : ∀ m, m < th.length → getT th m = getT th h → ∃ j ∈ fst th, getT th j = getT th h := fun m => by
    induction m using Nat.strongRecOn with
    | _ m ih =>
      intro hm e
      by_cases c : getT th m ∈ th.take m
      · obtain ⟨i, hi, q⟩ := List.mem_iff_getElem.mp c
        rw [List.length_take] at hi
        have him : i < m := by omega
        have hil : i < th.length := by omega
        refine ih i him hil ?_
        rw [← e, ← q, List.getElem_take]
        unfold getT
        rw [List.getElem?_eq_getElem hil]
        rfl
      · exact ⟨m, List.mem_filter.mpr ⟨List.mem_range.mpr hm, by simp [c]⟩, e⟩
  exact this h hh rfl
theorem own_grp {th : List Th} {h : Nat} (hh : h < th.length) : ∃ r, (fst th).filter (fun j => decide (h ∈ grp th (getT th j))) = r ∧ r ≠ [] ∧ ∀ j ∈ r, grp th (getT th j) = grp th (getT th h) := by
  refine ⟨_, rfl, fun e => ?_, fun j hj => ?_⟩
  · obtain ⟨j, hj, q⟩ := fst_of hh
    have : j ∈ (fst th).filter (fun j => decide (h ∈ grp th (getT th j))) := List.mem_filter.mpr ⟨hj, by rw [q]; simp [mem_grp, hh]⟩
    rw [e] at this
    cases this
  · obtain ⟨_, h2⟩ := List.mem_filter.mp hj
    rw [decide_eq_true_eq, mem_grp] at h2
    rw [← h2.2]
end FO

set_option Elab.async false
set_option linter.all false
set_option maxRecDepth 10000
set_option maxHeartbeats 1000000
namespace FO
open PySem L2
section
variable {n : Nat} {S : Sto} {w : Way} {ws : List Txt} {g : Bool} {fam : List Way} {th : List Th}
theorem e_law_true (hn : 1 ≤ n) (b : Bool) : FF n 104 [.d (.bool b), .d (.bool b)] S = .ok (.d (.bool true)) S := by
  obtain ⟨n, rfl, hm⟩ := pred_of hn
  cases b <;> rfl
theorem e_law_views (hn : 6 ≤ n) (w : Way) (ws : List Txt) (g : Bool) (r : List Key) (hw : Words ws) (hr : r.length ≤ 1000) : FF n 109 [.d w.e, .d (.list (ws.map tx)), .d (.int (qi g)), .d (.list (r.map Key.e))] S = .ok (.ref S.length) (S ++ [.lst ((shV w ws g r).map (ve g))]) := by
  obtain ⟨n, rfl, hm⟩ := pred_of hn
  have es := e_law_states hm (S := S) w ws r hw hr
  have hsl : slD (.list ((sts w (begin ws) r).map Stt.e)) (some 1) none = some (.list ((sts w (begin ws) r).tail.map Stt.e)) := by
    have := cut_from ((sts w (begin ws) r).map Stt.e) 1
    simp only [slD]
    rw [show (1 : Int) = ((1 : Nat) : Int) from rfl, this]
    simp [List.map_tail]
  have hlen := sts_len w r (begin ws)
  have hc := comp_all (P := PP n) (tg := .nm 4) (it := .e (.sl (.call 44 (.cons (.v 0) (.cons (.v 1) (.cons (.v 3) .nil)))) (.c (.int 1)) (.c .none))) (elt := .call 45 (.cons (.v 0) (.cons (.v 4) (.cons (.v 2) .nil)))) (ρ := [.val (.d w.e), .val (.d (.list (ws.map tx))), .val (.d (.int (qi g))), .val (.d (.list (r.map Key.e))), .un]) (S := S) (sts w (begin ws) r).tail Stt.e (fun s => viewE w s g) (by simp [es, hsl]) (by rw [List.length_tail]; omega) (fun x hx => ⟨_, rfl, by
    have gx := sts_all hw r x (List.mem_of_mem_tail hx)
    simp [e_law_view (n := n) (by omega) w x g (gx.wf hw)]⟩)
  have em : ((sts w (begin ws) r).tail.map fun s => viewE w s g) = (shV w ws g r).map (ve g) := shown_eq w ws g r
  rw [em] at hc
  show callB (PP n) FU fn__law_views_109 _ _ = _
  refine call_ret rfl ?_
  show exSs (PP n) FU (sdrop 0 ir__law_views_109) [.val (.d w.e), .val (.d (.list (ws.map tx))), .val (.d (.int (qi g))), .val (.d (.list (r.map Key.e))), .un] S = _
  refine ex_ret 0 rfl ?_
  rw [exS_ret]
  show Fl.of _ (ev (PP n) (.newL (.comp (.nm 4) (.e (.sl (.call 44 (.cons (.v 0) (.cons (.v 1) (.cons (.v 3) .nil)))) (.c (.int 1)) (.c .none))) (.c (.bool true)) (.call 45 (.cons (.v 0) (.cons (.v 4) (.cons (.v 2) .nil)))))) [.val (.d w.e), .val (.d (.list (ws.map tx))), .val (.d (.int (qi g))), .val (.d (.list (r.map Key.e))), .un] S) _ = _
  rw [ev_newL, hc, bind_ok]
  rfl
theorem e_law_groups (hn : 1 ≤ n) (hl : th.length ≤ 50) (hw : ∀ x ∈ th, Wt g x) : FF n 106 [.d (.list (th.map (te g)))] S = .ok (.d (.list (grD th))) S := by
  obtain ⟨n, rfl, hm⟩ := pred_of hn
  have hr : ∀ (x1 x2 x3 : Sl), evi (PP n) (.rng (.c (.int 0)) (.bi .len (.v 0))) [.val (.d (.list (th.map (te g)))), x1, x2, x3] S = .ok ((List.range th.length).map fun (j : Nat) => PyData.int j) S := fun x1 x2 x3 => by
    refine rng_of (x := .int 0) (y := .int (th.length : Nat)) (S1 := S) (S2 := S) (by rw [ev_c]) ?_ (rng_to S th.length (by omega))
    simp only [ev_bi, argm_v, ev_v, List.getElem?_cons_succ, List.getElem?_cons_zero, data_ok, l_len, List.length_map, Option.map_some, lift_some]
  have h1 := comp_if (P := PP n) (tg := .nm 2) (it := .rng (.c (.int 0)) (.bi .len (.v 0))) (test := .cmp .notin (.ix (.v 0) (.v 2)) (.sl (.v 0) (.c .none) (.v 2))) (elt := .v 2) (ρ := [.val (.d (.list (th.map (te g)))), .un, .un, .un]) (S := S) (List.range th.length) (fun (j : Nat) => PyData.int j) (fun k => !decide (getT th k ∈ th.take k)) (fun (j : Nat) => PyData.int j) (hr _ _ _) (by rw [List.length_range]; omega) (fun j hj => ⟨[.val (.d (.list (th.map (te g)))), .un, .val (.d (.int (j : Nat))), .un], rfl, by
    have hj := List.mem_range.mp hj
    refine cmp_of (x := te g (getT th j)) (y := .list ((th.take j).map (te g))) (S1 := S) ?_ ?_ (te_notin (hw _ (getT_mem hj)) fun b hb => hw b (List.mem_of_mem_take hb))
    · simp only [argm_ix, ev_ix, argm_v, ev_v, List.getElem?_cons_succ, List.getElem?_cons_zero, bind_ok, ixW_dd, ix_te hj, Option.map_some, lift_some]
    · simp only [argm_sl, ev_sl, argm_v, ev_v, ev_c, List.getElem?_cons_succ, List.getElem?_cons_zero, bind_ok, bnd_non, bnd_int, lift_some, vw_d, Option.bind_some, sl_te, Option.map_some], fun _ => by simp only [ev_v, List.getElem?_cons_succ, List.getElem?_cons_zero]⟩)
  have h2 := comp_all (P := PP n) (tg := .nm 3) (it := .e (.v 1)) (elt := .comp (.nm 2) (.rng (.c (.int 0)) (.bi .len (.v 0))) (.cmp .eq (.ix (.v 0) (.v 2)) (.ix (.v 0) (.v 3))) (.v 2)) (ρ := [.val (.d (.list (th.map (te g)))), .val (.d (nI (fst th))), .un, .un]) (S := S) (fst th) (fun (j : Nat) => PyData.int j) (fun j => nI (grp th (getT th j))) (by simp only [evi_e, argm_v, ev_v, List.getElem?_cons_succ, List.getElem?_cons_zero, bind_ok, l_items, lift_some]) (by
      have := List.length_filter_le (fun k => !decide (getT th k ∈ th.take k)) (List.range th.length)
      rw [List.length_range] at this
      unfold fst
      omega) (fun j hj => ⟨[.val (.d (.list (th.map (te g)))), .val (.d (nI (fst th))), .un, .val (.d (.int (j : Nat)))], rfl, by
      have hj : j < th.length := List.mem_range.mp (List.mem_filter.mp hj).1
      exact comp_if (P := PP n) (S := S) (List.range th.length) (fun (i : Nat) => PyData.int i) (fun i => decide (getT th i = getT th j)) (fun (i : Nat) => PyData.int i) (hr _ _ _) (by rw [List.length_range]; omega) (fun i hi => ⟨[.val (.d (.list (th.map (te g)))), .val (.d (nI (fst th))), .val (.d (.int (i : Nat))), .val (.d (.int (j : Nat)))], rfl, by
        have hi := List.mem_range.mp hi
        refine cmp_of (x := te g (getT th i)) (y := te g (getT th j)) (S1 := S) ?_ ?_ (te_eq (hw _ (getT_mem hi)) (hw _ (getT_mem hj)))
        · simp only [argm_ix, ev_ix, argm_v, ev_v, List.getElem?_cons_succ, List.getElem?_cons_zero, bind_ok, ixW_dd, ix_te hi, Option.map_some, lift_some]
        · simp only [argm_ix, ev_ix, argm_v, ev_v, List.getElem?_cons_succ, List.getElem?_cons_zero, bind_ok, ixW_dd, ix_te hj, Option.map_some, lift_some], fun _ => by simp only [ev_v, List.getElem?_cons_succ, List.getElem?_cons_zero]⟩)⟩)
  show callB (PP n) FU fn__law_groups _ _ = _
  refine call_ret rfl ?_
  show exSs (PP n) FU (sdrop 0 ir__law_groups) [.val (.d (.list (th.map (te g)))), .un, .un, .un] S = _
  rw [ex_next 0 rfl (ρ' := [.val (.d (.list (th.map (te g)))), .val (.d (nI (fst th))), .un, .un]) (S' := S) (by
    rw [exS_asg, frzE_comp, h1, of_ok]
    rfl)]
  refine ex_ret 1 rfl ?_
  rw [exS_ret, frzE_comp, h2, of_ok]
  rfl
/-- all that the ways show, one after another -/
theorem lviews (hn : 6 ≤ n) (hw : Words ws) (r : List Key) (hr : r.length ≤ 1000) (ρ : Rho) (h3 : ρ[3]? = some (.val (.d (.list (ws.map tx))))) (h4 : ρ[4]? = some (.val (.d (.int (qi g))))) (h5 : ρ[5]? = some (.val (.d (.list (r.map Key.e))))) (h9 : 9 < ρ.length) : ∀ (l : List Way) (S : Sto), ∃ R, compL (oneR (PP n) (.nm 9) (.c (.bool true)) (.call 109 (.cons (.v 9) (.cons (.v 3) (.cons (.v 4) (.cons (.v 5) .nil))))) ρ) (l.map Way.e) S = .ok ((l.map fun w => shV w ws g r).map (te g)) (S ++ R)
  | [], S => ⟨[], by rw [List.append_nil]; rfl⟩
  | w :: l, S => by
    obtain ⟨R, e⟩ := lviews hn hw r hr ρ h3 h4 h5 h9 l (S ++ [.dead])
    have e1 := e_law_views (n := n) (S := S) hn w ws g r hw hr
    have a3 : ((ρ.set 9 Sl.un).set 9 (.val (.d w.e)))[3]? = some (.val (.d (.list (ws.map tx)))) := by rw [List.getElem?_set_ne (by omega), List.getElem?_set_ne (by omega)]; exact h3
    have a4 : ((ρ.set 9 Sl.un).set 9 (.val (.d w.e)))[4]? = some (.val (.d (.int (qi g)))) := by rw [List.getElem?_set_ne (by omega), List.getElem?_set_ne (by omega)]; exact h4
    have a5 : ((ρ.set 9 Sl.un).set 9 (.val (.d w.e)))[5]? = some (.val (.d (.list (r.map Key.e)))) := by rw [List.getElem?_set_ne (by omega), List.getElem?_set_ne (by omega)]; exact h5
    have a9 : ((ρ.set 9 Sl.un).set 9 (.val (.d w.e)))[9]? = some (.val (.d w.e)) := by
      rw [List.getElem?_set_self]
      rw [List.length_set]; exact h9
    have ha : asgT (.nm 9) w.e (wipeR (tgOwn (.nm 9)) ρ) = some ((ρ.set 9 Sl.un).set 9 (.val (.d w.e))) := by
      rw [own_nm, wipeR_cons, wipeR_nil, asgT_nm, if_pos]
      rw [List.length_set]; exact h9
    have hth : thaw (S ++ [.lst ((shV w ws g r).map (ve g))]) (.ref S.length) = some (te g (shV w ws g r), S ++ [.dead]) := by
      have q1 : (S ++ [Cell.lst ((shV w ws g r).map (ve g))])[S.length]? = some (.lst ((shV w ws g r).map (ve g))) := by simp
      have q2 : (S ++ [Cell.lst ((shV w ws g r).map (ve g))]).set S.length .dead = S ++ [.dead] := by simp
      unfold thaw
      dsimp only
      rw [q1]
      dsimp only
      rw [q2]
      rfl
    have one : oneR (PP n) (.nm 9) (.c (.bool true)) (.call 109 (.cons (.v 9) (.cons (.v 3) (.cons (.v 4) (.cons (.v 5) .nil))))) ρ w.e S = .ok (some (te g (shV w ws g r))) (S ++ [.dead]) := by
      unfold oneR
      rw [ha]
      dsimp only
      simp only [ev_c, bind_ok, ev_call, evs_cons, evs_nil, ev_v, a3, a4, a5, a9, pp_fn, e1, hth]
      rfl
    refine ⟨.dead :: R, ?_⟩
    rw [List.map_cons, compL, one, bind_ok, e, bind_ok, List.append_assoc]
    rfl
/-! ### a long record -/
theorem bad_self (a : List Vu) : bad a a = [] := by
  unfold bad
  rw [List.filter_eq_nil_iff]
  intro k _
  simp
theorem bad_nil {a b : List Vu} (hl : a.length = b.length) : bad a b = [] ↔ a = b := by
  constructor
  · intro h
    unfold bad at h
    rw [List.filter_eq_nil_iff] at h
    apply List.ext_getElem hl
    intro i h1 h2
    have := h i (List.mem_range.mpr h1)
    simp only [Bool.not_eq_true', decide_eq_false_iff_not, Decidable.not_not] at this
    unfold getV at this
    rw [List.getElem?_eq_getElem h1, List.getElem?_eq_getElem h2] at this
    exact this
  · rintro rfl
    exact bad_self a
theorem bar_none {c : Rec} : bar w ws g c = none ↔ bad (shV w ws g c.1) c.2 = [] := by
  unfold bar
  rw [List.head?_eq_none_iff]
theorem kbs_nil {l : List (Option Nat)} : kbs l = [] ↔ ∀ o ∈ l, o = none := by
  unfold kbs
  rw [List.filter_eq_nil_iff]
  constructor
  · intro h o ho
    obtain ⟨i, hi, e⟩ := List.mem_iff_getElem.mp ho
    have := h i (List.mem_range.mpr hi)
    unfold getO at this
    rw [List.getElem?_eq_getElem hi, e] at this
    cases o with
    | none => rfl
    | some k => exact absurd rfl this
  · intro h k hk
    have hk := List.mem_range.mp hk
    have := h _ (List.getElem_mem hk)
    unfold getO
    rw [List.getElem?_eq_getElem hk, Option.getD_some, this]
    simp
abbrev clean (ws : List Txt) (g : Bool) (r : List Key) (w : Way) : List Rec := [(r, shV w ws g r), ([], [])]
theorem clean_nil (ws : List Txt) (g : Bool) (r : List Key) (w u : Way) : kbs ((clean ws g r w).map (bar u ws g)) = [] ↔ shV u ws g r = shV w ws g r := by
  rw [kbs_nil]
  have h2 : bar u ws g ([], []) = none := bar_none.mpr rfl
  have h1 : bar u ws g (r, shV w ws g r) = none ↔ shV u ws g r = shV w ws g r := by
    rw [bar_none]
    exact bad_nil (by rw [shV_len, shV_len])
  constructor
  · intro h
    exact h1.mp (h _ (by simp))
  · intro h o ho
    simp only [List.map_cons, List.map_nil, List.mem_cons, List.not_mem_nil, or_false] at ho
    rcases ho with rfl | rfl
    · exact h1.mpr h
    · exact h2
theorem getT_shF {k : Nat} (hk : k < fam.length) (ws : List Txt) (g : Bool) (r : List Key) : getT (shF ws g r fam) k = shV (getW fam k) ws g r := by
  unfold getT shF getW
  rw [List.getElem?_map, List.getElem?_eq_getElem hk]
  rfl
theorem rem_grp {h : Nat} (hh : h < fam.length) (ws : List Txt) (g : Bool) (r : List Key) : rem ws g (clean ws g r (getW fam h)) fam = grp (shF ws g r fam) (getT (shF ws g r fam) h) := by
  unfold rem grp
  have hl : (shF ws g r fam).length = fam.length := by unfold shF; rw [List.length_map]
  rw [hl]
  apply List.filter_congr
  intro k hk
  have hk := List.mem_range.mp hk
  rw [getT_shF hk, getT_shF hh, decide_eq_decide]
  exact clean_nil ws g r (getW fam h) (getW fam k)
theorem clean_rk (hw : Words ws) {r : List Key} (hr : r.length ≤ 40) (w : Way) : ∀ c ∈ clean ws g r w, Rk g c := fun c hc => by
  simp only [List.mem_cons, List.not_mem_nil, or_false] at hc
  rcases hc with rfl | rfl
  · exact ⟨hr, shV_len w ws g r, shV_wv hw⟩
  · exact ⟨by simp, rfl, fun l hl => by cases hl⟩
theorem int_any (h : Nat) : ∀ l : List Nat, ((l.map fun k => PyData.int (k : Nat)).any fun z => PyData.eqv z (.int (h : Nat))) = decide (h ∈ l)
  | [] => by simp
  | k :: l => by
    rw [List.map_cons, List.any_cons, int_any h l, eqv_nat]
    by_cases c : k = h
    · simp [c]
    · have c' : ¬ h = k := fun e => c e.symm
      simp [c, c']
theorem shp_nI (l : List Nat) : Shp 1 (nI l) := shp_map (fun k => shp_int 0 _) l
theorem int_notin (h : Nat) (l : List Nat) : cmpD .notin (.int (h : Nat)) (nI l) = some (.bool (!decide (h ∈ l))) := by
  have h1 : SeqAt.shaped (.int (h : Nat)) = true := (shp_int 0 (h : Nat)).ok (by omega)
  have h2 : SeqAt.shaped (nI l) = true := (shp_nI l).ok (by omega)
  simp only [cmpD, h1, h2, Bool.and_self, if_true, int_any]
theorem int_in (h : Nat) (l : List Nat) : cmpD .in_ (.int (h : Nat)) (nI l) = some (.bool (decide (h ∈ l))) := by
  have h1 : SeqAt.shaped (.int (h : Nat)) = true := (shp_int 0 (h : Nat)).ok (by omega)
  have h2 : SeqAt.shaped (nI l) = true := (shp_nI l).ok (by omega)
  simp only [cmpD, h1, h2, Bool.and_self, if_true, int_any]
theorem ix_fam {h : Nat} (hh : h < fam.length) : ixD (.list (fam.map Way.e)) (.int (h : Nat)) = some (getW fam h).e := by
  show atI _ _ = _
  rw [at_nat, List.getElem?_map]
  unfold getW
  rw [List.getElem?_eq_getElem hh]
  rfl
theorem shp_way (w : Way) : Shp 1 w.e := shp_tup fun x hx => by
  have ok : ∀ s : Str, PyData.canLay0 (.str s) = true → Shp 0 (.str s) := fun s h => ⟨h, by simp [PyData.depth]⟩
  simp only [List.mem_cons, List.not_mem_nil, or_false] at hx
  rcases hx with rfl | rfl | rfl | rfl | rfl | rfl
  · exact ok _ (by cases w.ch <;> decide +kernel)
  · exact shp_int 0 _
  · exact ok _ (by cases w.ac <;> decide +kernel)
  · exact ok _ (by cases w.ag <;> decide +kernel)
  · exact ok _ (by cases w.bk <;> decide +kernel)
  · exact shp_int 0 _
abbrev rK (fam : List Way) (h : Nat) (ws : List Txt) (g : Bool) (x5 x6 x7 x8 x9 x10 : Sl) : Rho := [.val (.ref 1), .val (.d (.list (fam.map Way.e))), .val (.d (.int (h : Nat))), .val (.d (.list (ws.map tx))), .val (.d (.int (qi g))), x5, x6, x7, x8, x9, x10]
theorem e_law_clean {R : Sto} (hn : 10 ≤ n) (D : DrwR R S) (hw : Words ws) (hf : Fam fam) {h : Nat} (hh : h < fam.length) : ∃ S', FF n 107 [.ref 1, .d (.list (fam.map Way.e)), .d (.int (h : Nat)), .d (.list (ws.map tx)), .d (.int (qi g))] S = .ok (.d (.bool true)) S' := by
  obtain ⟨n, rfl, hm⟩ := pred_of hn
  obtain ⟨r, S1, D1, hr, e1⟩ := d_row (n := n) (by omega) D 40 (by omega)
  have e1 : FF n 38 [.ref 1, .d (.int 40)] S = .ok (.d (.list (r.map Key.e))) S1 := e1
  have hix := ix_fam hh
  have e2 := e_views_of (n := n) (by omega) (S := S1) (getW fam h) ws g r hw hr
  rw [shown_eq] at e2
  have e3 := e_remains (n := n) (S := S1) (g := g) (fam := fam) (cs := clean ws g r (getW fam h)) hm hw hf (by simp) (by simp) (clean_rk hw hr _)
  have e4 := e_first_bar (n := n) (S := S1) (w := getW fam h) (g := g) (c := ([], [])) (by omega) hw ⟨by simp, rfl, fun l hl => by cases hl⟩
  have e5 := e_groups (n := n) (S := S1) (g := g) (by omega) hw hf r hr
  obtain ⟨R6, e6⟩ := lviews (n := n) (g := g) (by omega) hw r (by omega) (rK fam h ws g (.val (.d (.list (r.map Key.e)))) (.val (.d (.list ((clean ws g r (getW fam h)).map (re g))))) (.val (.d (nI (rem ws g (clean ws g r (getW fam h)) fam)))) (.val (.d (.list (grD (shF ws g r fam))))) .un .un) rfl rfl rfl (by simp) fam S1
  have hfl := hf.few
  have e7 := e_law_groups (n := n) (S := S1 ++ R6) (g := g) (th := shF ws g r fam) (by omega) (by unfold shF; rw [List.length_map]; omega) (shF_wt hw r)
  have hmem : h ∈ rem ws g (clean ws g r (getW fam h)) fam := by
    unfold rem
    refine List.mem_filter.mpr ⟨List.mem_range.mpr hh, ?_⟩
    exact decide_eq_true ((clean_nil ws g r _ _).mpr rfl)
  have hgr := rem_grp hh ws g r
  have hthl : h < (shF ws g r fam).length := by unfold shF; rw [List.length_map]; exact hh
  obtain ⟨rr, er, ne, hall⟩ := own_grp (th := shF ws g r fam) hthl
  refine ⟨S1 ++ R6, ?_⟩
  show callB (PP n) FU fn__law_clean _ _ = _
  refine call_ret rfl ?_
  show exSs (PP n) FU (sdrop 0 ir__law_clean) (rK fam h ws g .un .un .un .un .un .un) S = _
  rw [ex_next 0 rfl (ρ' := rK fam h ws g (.val (.d (.list (r.map Key.e)))) .un .un .un .un .un) (S' := S1) (by
    simp only [exS_asg, frzE_call, ev_call, evs_cons, evs_nil, ev_v, ev_c, List.getElem?_cons_succ, List.getElem?_cons_zero, bind_ok, pp_fn, e1, of_ok]
    rfl)]
  rw [ex_next 1 rfl (ρ' := rK fam h ws g (.val (.d (.list (r.map Key.e)))) (.val (.d (.list ((clean ws g r (getW fam h)).map (re g))))) .un .un .un .un) (S' := S1) (by
    simp only [exS_asg, frzE_lst, ev_lst, ev_tup, ev_call, evs_cons, evs_nil, ev_v, ev_c, ev_ix, argm_v, List.getElem?_cons_succ, List.getElem?_cons_zero, bind_ok, ixW_dd, hix, Option.map_some, lift_some, pp_fn, e2, mkTup_eq, mkLst_eq, List.length_cons, List.length_nil, show Nat.ble 0 lim = true from rfl, show Nat.ble (0 + 1 + 1) lim = true from rfl, if_true, allD_cons, allD_nil, of_ok]
    rfl)]
  rw [ex_next 2 rfl (ρ' := rK fam h ws g (.val (.d (.list (r.map Key.e)))) (.val (.d (.list ((clean ws g r (getW fam h)).map (re g))))) (.val (.d (nI (rem ws g (clean ws g r (getW fam h)) fam)))) .un .un .un) (S' := S1) (by
    simp only [exS_asg, frzE_call, ev_call, evs_cons, evs_nil, ev_v, List.getElem?_cons_succ, List.getElem?_cons_zero, bind_ok, pp_fn, e3, of_ok]
    rfl)]
  have hc3 : ev (PP n) (.or (.cmp .notin (.v 2) (.v 7)) (.cmp .isnot (.call 97 (.cons (.ix (.v 1) (.v 2)) (.cons (.v 3) (.cons (.v 4) (.cons (.tup (.cons (.lst .nil) (.cons (.lst .nil) .nil))) .nil))))) (.c (.none)))) (rK fam h ws g (.val (.d (.list (r.map Key.e)))) (.val (.d (.list ((clean ws g r (getW fam h)).map (re g))))) (.val (.d (nI (rem ws g (clean ws g r (getW fam h)) fam)))) .un .un .un) S1 = .ok (.d (.bool false)) S1 := by
    refine or_ff (S1 := S1) ?_ ?_
    · refine cmp_of (x := .int (h : Nat)) (y := nI (rem ws g (clean ws g r (getW fam h)) fam)) (S1 := S1) ?_ ?_ (by rw [int_notin, decide_eq_true hmem]; rfl)
      · simp only [argm_v, ev_v, List.getElem?_cons_succ, List.getElem?_cons_zero]
      · simp only [argm_v, ev_v, List.getElem?_cons_succ, List.getElem?_cons_zero]
    · have hb : bar (getW fam h) ws g ([], []) = none := bar_none.mpr rfl
      rw [hb] at e4
      have e4 : FF n 97 [.d (getW fam h).e, .d (.list (ws.map tx)), .d (.int (qi g)), .d (.tuple [.list [], .list []])] S1 = .ok (.d .none) S1 := e4
      refine cmp_of (x := .none) (y := .none) (S1 := S1) ?_ (by rw [argm_c, ev_c]) (by rfl)
      simp only [argm_call, ev_call, evs_cons, evs_nil, ev_v, ev_ix, argm_v, ev_tup, ev_lst, List.getElem?_cons_succ, List.getElem?_cons_zero, bind_ok, ixW_dd, hix, Option.map_some, lift_some, mkTup_eq, mkLst_eq, List.length_cons, List.length_nil, show Nat.ble 0 lim = true from rfl, show Nat.ble (0 + 1 + 1) lim = true from rfl, if_true, allD_cons, allD_nil, pp_fn, e4]
  rw [ex_skip 3 rfl hc3]
  rw [ex_next 4 rfl (ρ' := rK fam h ws g (.val (.d (.list (r.map Key.e)))) (.val (.d (.list ((clean ws g r (getW fam h)).map (re g))))) (.val (.d (nI (rem ws g (clean ws g r (getW fam h)) fam)))) (.val (.d (.list (grD (shF ws g r fam))))) .un .un) (S' := S1) (by
    simp only [exS_asg, frzE_call, ev_call, evs_cons, evs_nil, ev_v, List.getElem?_cons_succ, List.getElem?_cons_zero, bind_ok, pp_fn, e5, of_ok]
    rfl)]
  have hsh : Shp 2 (.list (grD (shF ws g r fam))) := shp_map (fun j => shp_nI _) _
  have hc5 : ev (PP n) (.cmp .ne (.v 8) (.call 106 (.cons (.comp (.nm 9) (.e (.v 1)) (.c (.bool true)) (.call 109 (.cons (.v 9) (.cons (.v 3) (.cons (.v 4) (.cons (.v 5) .nil)))))) .nil))) (rK fam h ws g (.val (.d (.list (r.map Key.e)))) (.val (.d (.list ((clean ws g r (getW fam h)).map (re g))))) (.val (.d (nI (rem ws g (clean ws g r (getW fam h)) fam)))) (.val (.d (.list (grD (shF ws g r fam))))) .un .un) S1 = .ok (.d (.bool false)) (S1 ++ R6) := by
    refine cmp_of (x := .list (grD (shF ws g r fam))) (y := .list (grD (shF ws g r fam))) (S1 := S1) ?_ ?_ (d_other hsh (by omega))
    · simp only [argm_v, ev_v, List.getElem?_cons_succ, List.getElem?_cons_zero]
    · rw [argm_call, ev_call, evs_cons, comp_st (ds := fam.map Way.e) (S1 := S1) (by simp only [evi_e, argm_v, ev_v, List.getElem?_cons_succ, List.getElem?_cons_zero, bind_ok, l_items, lift_some]) (by rw [List.length_map]; omega) e6, bind_ok, evs_nil, bind_ok, bind_ok, pp_fn]
      exact e7
  rw [ex_skip 5 rfl hc5]
  refine ex_ret 6 rfl ?_
  rw [exS_ret, frzE_cmp]
  have hc6 := comp_if (P := PP n) (tg := .nm 10) (it := .e (.v 8)) (test := .cmp .in_ (.v 2) (.v 10)) (elt := .v 10) (ρ := rK fam h ws g (.val (.d (.list (r.map Key.e)))) (.val (.d (.list ((clean ws g r (getW fam h)).map (re g))))) (.val (.d (nI (rem ws g (clean ws g r (getW fam h)) fam)))) (.val (.d (.list (grD (shF ws g r fam))))) .un .un) (S := S1 ++ R6) (fst (shF ws g r fam)) (fun j => nI (grp (shF ws g r fam) (getT (shF ws g r fam) j))) (fun j => decide (h ∈ grp (shF ws g r fam) (getT (shF ws g r fam) j))) (fun j => nI (grp (shF ws g r fam) (getT (shF ws g r fam) j))) (by
      simp only [evi_e, argm_v, ev_v, List.getElem?_cons_succ, List.getElem?_cons_zero, bind_ok, l_items, lift_some]
      rfl) (by
      have := List.length_filter_le (fun k => !decide (getT (shF ws g r fam) k ∈ (shF ws g r fam).take k)) (List.range (shF ws g r fam).length)
      rw [List.length_range] at this
      have h2 : (shF ws g r fam).length = fam.length := by unfold shF; rw [List.length_map]
      unfold fst
      omega) (fun j _ => ⟨rK fam h ws g (.val (.d (.list (r.map Key.e)))) (.val (.d (.list ((clean ws g r (getW fam h)).map (re g))))) (.val (.d (nI (rem ws g (clean ws g r (getW fam h)) fam)))) (.val (.d (.list (grD (shF ws g r fam))))) .un (.val (.d (nI (grp (shF ws g r fam) (getT (shF ws g r fam) j))))), rfl, by
      refine cmp_of (x := .int (h : Nat)) (y := nI (grp (shF ws g r fam) (getT (shF ws g r fam) j))) (S1 := S1 ++ R6) ?_ ?_ (int_in _ _)
      · simp only [argm_v, ev_v, List.getElem?_cons_succ, List.getElem?_cons_zero]
      · simp only [argm_v, ev_v, List.getElem?_cons_succ, List.getElem?_cons_zero], fun _ => by simp only [ev_v, List.getElem?_cons_succ, List.getElem?_cons_zero]⟩)
  rw [er] at hc6
  have hfirst : ∃ r2, rr.map (fun j => nI (grp (shF ws g r fam) (getT (shF ws g r fam) j))) = nI (rem ws g (clean ws g r (getW fam h)) fam) :: r2 := by
    cases rr with
    | nil => exact absurd rfl ne
    | cons j r2 =>
      refine ⟨r2.map fun j => nI (grp (shF ws g r fam) (getT (shF ws g r fam) j)), ?_⟩
      rw [List.map_cons, hall j List.mem_cons_self, hgr]
  obtain ⟨r2, hfirst⟩ := hfirst
  rw [hfirst] at hc6
  rw [cmp_of (x := nI (rem ws g (clean ws g r (getW fam h)) fam)) (y := nI (rem ws g (clean ws g r (getW fam h)) fam)) (S1 := S1 ++ R6) (S2 := S1 ++ R6) (r := .bool true) (by
    rw [argm_ix, ev_ix, argm_comp, hc6, bind_ok, ev_c, bind_ok, ixW_dd, ix0]
    rfl) (by simp only [argm_v, ev_v, List.getElem?_cons_succ, List.getElem?_cons_zero]) (d_same (shp_nI _) (by omega)), of_ok]
end
end FO

set_option Elab.async false
set_option linter.all false
set_option maxRecDepth 10000
set_option maxHeartbeats 1000000
namespace FO
open PySem L2
/-! ### the store's cells -/
theorem drw_add {R S : Sto} (h : DrwR R S) (x : Cell) : DrwR (R ++ [x]) (S ++ [x]) := by
  obtain ⟨nums, c, h1, h2, rfl⟩ := h
  exact ⟨nums, c, h1, h2, rfl⟩
theorem drw_len {R S : Sto} (h : DrwR R S) : S.length = R.length + 2 := by
  obtain ⟨nums, c, h1, h2, rfl⟩ := h
  rfl
theorem drw_last {R S : Sto} {x : Cell} (h : DrwR (R ++ [x]) S) : S[R.length + 2]? = some x := by
  obtain ⟨nums, c, h1, h2, rfl⟩ := h
  show (R ++ [x])[R.length]? = _
  simp
theorem drw_set {R S : Sto} {x : Cell} (h : DrwR (R ++ [x]) S) (y : Cell) : DrwR (R ++ [y]) (S.set (R.length + 2) y) := by
  obtain ⟨nums, c, h1, h2, rfl⟩ := h
  refine ⟨nums, c, h1, h2, ?_⟩
  show _ :: _ :: (R ++ [x]).set R.length y = _
  rw [show (R ++ [x]).set R.length y = R ++ [y] by simp]
  rfl
theorem cmpW_ref {S : Sto} {m : Nat} {xs : List PyData} (h : S[m]? = some (.lst xs)) (y : PyData) : cmpW .ne S (.ref m) (.d y) = cmpD .ne (.list xs) y := by
  show ((vw S (.ref m)).bind fun x => (vw S (.d y)).bind fun y => cmpD .ne x y) = _
  rw [vw_ref, h]
  rfl
section
variable {n : Nat} {R S : Sto} {ws : List Txt} {g : Bool} {fam : List Way} {h : Nat} {sc : PyData} {cs : List Rec}
theorem d_pickR (hn : 2 ≤ n) {xs : List PyData} (D : DrwR (R ++ [.lst xs]) S) (h1 : xs ≠ []) (h2 : xs.length ≤ 1000000) : ∃ x S', DrwR (R ++ [.lst xs]) S' ∧ x ∈ xs ∧ FF n 33 [.ref 1, .ref (R.length + 2)] S = .ok (.d x) S' := by
  obtain ⟨n, rfl, hm⟩ := pred_of hn
  obtain ⟨v, S', D', hv, e⟩ := d_draw hm D xs.length (List.length_pos_iff.mpr h1) h2
  obtain ⟨x, hx⟩ : ∃ x, xs[v]? = some x := ⟨_, List.getElem?_eq_getElem hv⟩
  refine ⟨x, S', D', List.mem_of_getElem? hx, ?_⟩
  have c0 := drw_last D
  have c1 := drw_last D'
  have hat : atI xs ((v : Nat) : Int) = some x := by rw [at_nat]; exact hx
  show callB (PP n) FU fn__law_pick _ _ = _
  refine call_ret rfl ?_
  show exSs (PP n) FU (sdrop 0 ir__law_pick) [.val (.ref 1), .val (.ref (R.length + 2))] S = _
  refine ex_ret 0 rfl ?_
  have hlen : ev (PP n) (.bi .len (.v 1)) [.val (.ref 1), .val (.ref (R.length + 2))] S = .ok (.d (.int (xs.length : Nat))) S := by
    simp only [ev_bi, argm_v, ev_v, List.getElem?_cons_succ, List.getElem?_cons_zero, data_ref, vw_ref, c0, Option.bind_some, l_len, Option.map_some, lift_some]
  simp only [exS_ret, frzE_ix, ev_ix, argm_v, ev_v, List.getElem?_cons_succ, List.getElem?_cons_zero, bind_ok, ev_call, evs_cons, evs_nil, hlen, pp_fn, e, ixW_ref, c1, hat, Option.map_some, lift_some, of_ok]
abbrev rW (sc : PyData) (ws : List Txt) (g : Bool) (fam : List Way) (h : Nat) (x7 x8 x9 x10 x11 x12 x13 x14 x15 x16 x17 x18 : Sl) : Rho := [.val (.d sc), .val (.ref 1), .val (.d (.list (ws.map tx))), .val (.d (.int (qi g))), .val (.d (.list (fam.map Way.e))), .un, .val (.d (.int (h : Nat))), x7, x8, x9, x10, x11, x12, x13, x14, x15, x16, x17, x18]
/-- told may be changed at one place -/
theorem mid1 (hn : 3 ≤ n) {vs : List Vu} (hv : ∀ l ∈ vs, Wv g l) (hl : vs.length ≤ 100) (D : DrwR (R ++ [.lst (vs.map (ve g))]) S) (x7 x8 x9 x11 : Sl) : ∃ (vs' : List Vu) (S' : Sto) (y11 : Sl), (∀ l ∈ vs', Wv g l) ∧ vs'.length = vs.length ∧ DrwR (R ++ [.lst (vs'.map (ve g))]) S' ∧
    exSs (PP n) FU (sdrop 2 lb_law_108_1) (rW sc ws g fam h x7 x8 x9 (.val (.ref (R.length + 2))) x11 .un .un .un .un .un .un .un) S = exSs (PP n) FU (sdrop 3 lb_law_108_1) (rW sc ws g fam h x7 x8 x9 (.val (.ref (R.length + 2))) y11 .un .un .un .un .un .un .un) S' := by
  have c0 := drw_last D
  have hne : ev (PP n) (.cmp .ne (.v 10) (.lst .nil)) (rW sc ws g fam h x7 x8 x9 (.val (.ref (R.length + 2))) x11 .un .un .un .un .un .un .un) S = .ok (.d (.bool (!decide (vs = [])))) S := by
    rw [ev_cmp]
    simp only [argm_v, ev_v, List.getElem?_cons_succ, List.getElem?_cons_zero, bind_ok, argm_lst, ev_lst, evs_nil, mkLst_eq, List.length_nil, show Nat.ble 0 lim = true from rfl, if_true, allD_nil, cmpW_ref c0]
    rw [d_nev (shp_map (shp_ve g) vs) (shp_lst fun x hx => by cases hx) (by omega), eqv_nil]
    rfl
  by_cases cv : vs = []
  · rw [decide_eq_true cv] at hne
    refine ⟨vs, S, x11, hv, rfl, D, ?_⟩
    rw [ex_skip 2 rfl (and_f hne)]
  · rw [decide_eq_false cv] at hne
    obtain ⟨v, S1, D1, hv3, e1⟩ := d_draw (n := n) (by omega) D 3 (by omega) (by omega)
    have e1 : FF n 32 [.ref 1, .d (.int 3)] S = .ok (.d (.int (v : Nat))) S1 := e1
    have hq : ev (PP n) (.cmp .eq (.call 32 (.cons (.v 1) (.cons (.c (.int 3)) .nil))) (.c (.int 0))) (rW sc ws g fam h x7 x8 x9 (.val (.ref (R.length + 2))) x11 .un .un .un .un .un .un .un) S = .ok (.d (.bool (decide (v = 0)))) S1 := by
      refine cmp_of (x := .int (v : Nat)) (y := .int 0) (S1 := S1) ?_ (by rw [argm_c, ev_c]) (by rw [i_eq, show decide (((v : Nat) : Int) = 0) = decide (v = 0) from decide_eq_decide.mpr (by omega)])
      simp only [argm_call, ev_call, evs_cons, evs_nil, ev_v, ev_c, List.getElem?_cons_succ, List.getElem?_cons_zero, bind_ok, pp_fn, e1]
    have hand := and_t hne hq
    by_cases c3 : v = 0
    · rw [decide_eq_true c3] at hand
      have hlen0 : 0 < vs.length := List.length_pos_iff.mpr cv
      have hxl : (vs.map (ve g)).length = vs.length := List.length_map _
      have c1 := drw_last D1
      obtain ⟨at', S2, D2, hat, e2⟩ := d_draw (n := n) (by omega) D1 vs.length hlen0 (by omega)
      obtain ⟨x, S3, D3, hx, e3⟩ := d_pickR (n := n) (by omega) D2 (by simpa using cv) (by rw [hxl]; omega)
      obtain ⟨l, hl2, rfl⟩ := List.mem_map.mp hx
      have c3' := drw_last D3
      have hix : ixN (vs.map (ve g)).length ((at' : Nat) : Int) = some at' := by
        rw [hxl]
        unfold ixN
        rw [if_pos (by omega), if_pos (by omega)]
        simp
      have hset : (vs.map (ve g)).set at' (ve g l) = (vs.set at' l).map (ve g) := (List.map_set).symm
      have D4 := drw_set D3 (.lst ((vs.set at' l).map (ve g)))
      refine ⟨vs.set at' l, _, .val (.d (.int (at' : Nat))), fun z hz => ?_, List.length_set .., D4, ?_⟩
      · rcases List.mem_or_eq_of_mem_set hz with q | q
        · exact hv z q
        · rw [q]; exact hv l hl2
      · rw [ex_at 2 rfl, iff_b hand, if_pos rfl, exSs_cons]
        have s1 : exS (PP n) FU (.asg (.nm 11) (.call 32 (.cons (.v 1) (.cons (.bi .len (.v 10)) .nil)))) (rW sc ws g fam h x7 x8 x9 (.val (.ref (R.length + 2))) x11 .un .un .un .un .un .un .un) S1 = .next (rW sc ws g fam h x7 x8 x9 (.val (.ref (R.length + 2))) (.val (.d (.int (at' : Nat)))) .un .un .un .un .un .un .un) S2 := by
          have hlen : ev (PP n) (.bi .len (.v 10)) (rW sc ws g fam h x7 x8 x9 (.val (.ref (R.length + 2))) x11 .un .un .un .un .un .un .un) S1 = .ok (.d (.int (vs.length : Nat))) S1 := by
            simp only [ev_bi, argm_v, ev_v, List.getElem?_cons_succ, List.getElem?_cons_zero, data_ref, vw_ref, c1, Option.bind_some, l_len, hxl, Option.map_some, lift_some]
          simp only [exS_asg, frzE_call, ev_call, evs_cons, evs_nil, ev_v, List.getElem?_cons_succ, List.getElem?_cons_zero, bind_ok, hlen, pp_fn, e2, of_ok]
          rfl
        have s2 : exS (PP n) FU (.setix (.v 10) (.v 11) (.call 33 (.cons (.v 1) (.cons (.v 10) .nil)))) (rW sc ws g fam h x7 x8 x9 (.val (.ref (R.length + 2))) (.val (.d (.int (at' : Nat)))) .un .un .un .un .un .un .un) S2 = .next (rW sc ws g fam h x7 x8 x9 (.val (.ref (R.length + 2))) (.val (.d (.int (at' : Nat)))) .un .un .un .un .un .un .un) (S3.set (R.length + 2) (.lst ((vs.set at' l).map (ve g)))) := by
          rw [exS_setix]
          simp only [ev_call, evs_cons, evs_nil, ev_v, List.getElem?_cons_succ, List.getElem?_cons_zero, bind_ok, pp_fn, e3, of_ok, c3', hix, hset]
        rw [s1, then_next, exSs_cons, s2, then_next, exSs_nil, then_next]
    · rw [decide_eq_false c3] at hand
      refine ⟨vs, S1, x11, hv, rfl, D1, ?_⟩
      rw [ex_skip 2 rfl hand]
theorem turn1 (hn : 6 ≤ n) (D : DrwR R S) (hw : Words ws) (hh : h < fam.length) (hcs : cs.length ≤ 50) (t : Int) (x8 x9 x10 x11 : Sl) : ∃ (c : Rec) (R' S' : Sto) (y9 y10 y11 : Sl), Rk g c ∧ DrwR R' S' ∧
    loopB (PP n) FU (.nm 8) lb_law_108_1 (.int t) (rW sc ws g fam h (.own (cs.map (re g))) x8 x9 x10 x11 .un .un .un .un .un .un .un) S = .next (rW sc ws g fam h (.own ((cs ++ [c]).map (re g))) (.val (.d (.int t))) y9 y10 y11 .un .un .un .un .un .un .un) S' := by
  obtain ⟨r, S1, D1, hr, e1⟩ := d_row (n := n) (by omega) D 10 (by omega)
  have e1 : FF n 38 [.ref 1, .d (.int 10)] S = .ok (.d (.list (r.map Key.e))) S1 := e1
  have hix := ix_fam hh
  have e2 := e_law_views (n := n) (S := S1) hn (getW fam h) ws g r hw (by omega)
  rw [drw_len D1] at e2
  have D2 := drw_add D1 (.lst ((shV (getW fam h) ws g r).map (ve g)))
  have hvl := shV_len (getW fam h) ws g r
  have hvw : ∀ l ∈ shV (getW fam h) ws g r, Wv g l := shV_wv hw
  generalize shV (getW fam h) ws g r = vs at *
  obtain ⟨vs', S3, y11, hv', hl', D3, em⟩ := mid1 (n := n) (sc := sc) (ws := ws) (fam := fam) (h := h) (by omega) hvw (by omega) D2 (.own (cs.map (re g))) (.val (.d (.int t))) (.val (.d (.list (r.map Key.e)))) x11
  have D4 := drw_set D3 .dead
  have c3 := drw_last D3
  refine ⟨(r, vs'), _, _, .val (.d (.list (r.map Key.e))), .val (.d (.list (vs'.map (ve g)))), y11, ⟨by show r.length ≤ 40; omega, by show vs'.length = r.length; omega, hv'⟩, D4, ?_⟩
  simp only [loopB, asgT]
  show exSs (PP n) FU (sdrop 0 lb_law_108_1) (rW sc ws g fam h (.own (cs.map (re g))) (.val (.d (.int t))) x9 x10 x11 .un .un .un .un .un .un .un) S = _
  rw [ex_next 0 rfl (ρ' := rW sc ws g fam h (.own (cs.map (re g))) (.val (.d (.int t))) (.val (.d (.list (r.map Key.e)))) x10 x11 .un .un .un .un .un .un .un) (S' := S1) (by
    simp only [exS_asg, frzE_call, ev_call, evs_cons, evs_nil, ev_v, ev_c, List.getElem?_cons_succ, List.getElem?_cons_zero, bind_ok, pp_fn, e1, of_ok]
    rfl)]
  rw [ex_next 1 rfl (ρ' := rW sc ws g fam h (.own (cs.map (re g))) (.val (.d (.int t))) (.val (.d (.list (r.map Key.e)))) (.val (.ref (R.length + 2))) x11 .un .un .un .un .un .un .un) (S' := S1 ++ [.lst (vs.map (ve g))]) (by
    simp only [exS_asg, frzE_call, ev_call, evs_cons, evs_nil, ev_ix, argm_v, ev_v, ev_c, List.getElem?_cons_succ, List.getElem?_cons_zero, bind_ok, ixW_dd, hix, Option.map_some, lift_some, pp_fn, e2, of_ok]
    rfl)]
  rw [em]
  rw [ex_next 3 rfl (ρ' := rW sc ws g fam h (.own ((cs ++ [(r, vs')]).map (re g))) (.val (.d (.int t))) (.val (.d (.list (r.map Key.e)))) (.val (.d (.list (vs'.map (ve g))))) y11 .un .un .un .un .un .un .un) (S' := S3.set (R.length + 2) .dead) (by
    have hth : thaw S3 (.ref (R.length + 2)) = some (.list (vs'.map (ve g)), S3.set (R.length + 2) .dead) := by
      unfold thaw
      dsimp only
      rw [c3]
    have hl3 : Nat.blt (cs.map (re g)).length lim = true := by rw [List.length_map]; exact Nat.ble_eq_true_of_le (show cs.length + 1 ≤ 1000000 by omega)
    rw [exS_frz]
    simp only [List.getElem?_cons_succ, List.getElem?_cons_zero, hth, List.set_cons_succ, List.set_cons_zero]
    rw [exS_app, frzE_tup]
    simp only [List.getElem?_cons_succ, List.getElem?_cons_zero, ev_tup, evs_cons, evs_nil, ev_v, bind_ok, mkTup_eq, List.length_cons, List.length_nil, show Nat.ble (0 + 1 + 1) lim = true from rfl, if_true, allD_cons, allD_nil, Option.map_some, of_ok, hl3, List.set_cons_succ, List.set_cons_zero]
    rw [List.map_append]
    rfl)]
  exact ex_end 4 rfl
theorem loop1 (hn : 6 ≤ n) (hw : Words ws) (hh : h < fam.length) : ∀ (ts : List PyData) (cs : List Rec) (R S : Sto), (∀ t ∈ ts, ∃ i, t = .int i) → DrwR R S → (∀ c ∈ cs, Rk g c) → cs.length + ts.length ≤ 50 → ∀ (x8 x9 x10 x11 : Sl), ∃ (cs' : List Rec) (R' S' : Sto) (y8 y9 y10 y11 : Sl), (∀ c ∈ cs', Rk g c) ∧ cs'.length = cs.length + ts.length ∧ DrwR R' S' ∧
    forL (loopB (PP n) FU (.nm 8) lb_law_108_1) ts (rW sc ws g fam h (.own (cs.map (re g))) x8 x9 x10 x11 .un .un .un .un .un .un .un) S = .next (rW sc ws g fam h (.own (cs'.map (re g))) y8 y9 y10 y11 .un .un .un .un .un .un .un) S'
  | [], cs, R, S, _, D, hc, _, x8, x9, x10, x11 => ⟨cs, R, S, x8, x9, x10, x11, hc, rfl, D, rfl⟩
  | t :: ts, cs, R, S, ht, D, hc, hl, x8, x9, x10, x11 => by
    rw [List.length_cons] at hl
    obtain ⟨i, rfl⟩ := ht t List.mem_cons_self
    obtain ⟨c, R1, S1, y9, y10, y11, k1, D1, e1⟩ := turn1 (n := n) (sc := sc) (cs := cs) hn D hw hh (by omega) i x8 x9 x10 x11
    obtain ⟨cs', R2, S2, z8, z9, z10, z11, k2, l2, D2, e2⟩ := loop1 hn hw hh ts (cs ++ [c]) R1 S1 (fun u hu => ht u (List.mem_cons_of_mem _ hu)) D1 (fun d hd => by
      rcases List.mem_append.mp hd with q | q
      · exact hc d q
      · rw [List.mem_singleton.mp q]; exact k1) (by rw [List.length_append, List.length_singleton]; omega) (.val (.d (.int i))) y9 y10 y11
    refine ⟨cs', R2, S2, z8, z9, z10, z11, k2, by rw [l2, List.length_append, List.length_singleton, List.length_cons]; omega, D2, ?_⟩
    rw [forL, e1, then_next]
    exact e2
end
end FO

set_option Elab.async false
set_option linter.all false
set_option maxRecDepth 100000
set_option maxHeartbeats 2000000
namespace FO
open PySem L2
section
variable {n : Nat} {R S : Sto} {ws : List Txt} {g : Bool} {fam : List Way} {h : Nat} {sc : PyData} {cs : List Rec} {u : Way}
theorem ix_pl {pl : List (Option Nat)} {k : Nat} (hk : k < pl.length) : ixD (plD pl) (.int (k : Nat)) = some (oI (getO pl k)) := by
  show atI _ _ = _
  rw [at_nat, List.getElem?_map]
  unfold getO
  rw [List.getElem?_eq_getElem hk]
  rfl
theorem at_ve {vs : List Vu} {k : Nat} (hk : k < vs.length) : atI (vs.map (ve g)) (k : Nat) = some (ve g (getV vs k)) := by
  rw [at_nat, List.getElem?_map]
  unfold getV
  rw [List.getElem?_eq_getElem hk]
  rfl
theorem nI_ne (l : List Nat) : cmpD .ne (nI l) (.list []) = some (.bool (!decide (l = []))) := by
  rw [d_nev (shp_nI l) (shp_lst fun x hx => by cases hx) (by omega), eqv_nil]
/-- one record read by one way -/
theorem turn2 (hn : 6 ≤ n) (D : DrwR R S) (hw : Words ws) {c : Rec} (hc : Rk g c) (acc : List (Option Nat)) (ha : acc.length ≤ 100) (x7 x8 x9 x10 x11 x12 x15 x16 x17 : Sl) : ∃ (R' S' : Sto) (y15 y16 : Sl), DrwR R' S' ∧
    loopB (PP n) FU (.tp (.cons (.nm 9) (.cons (.nm 10) .nil))) lb_law_108_2 (re g c) (rW sc ws g fam h x7 x8 x9 x10 x11 x12 (.val (.d u.e)) (.own (acc.map oI)) x15 x16 x17 .un) S = .next (rW sc ws g fam h x7 x8 (.val (.d (.list (c.1.map Key.e)))) (.val (.d (.list (c.2.map (ve g))))) x11 x12 (.val (.d u.e)) (.own ((acc ++ [bar u ws g c]).map oI)) y15 y16 x17 .un) S' := by
  have e2 := e_law_views (n := n) (S := S) hn u ws g c.1 hw (by have := hc.k; omega)
  rw [drw_len D] at e2
  have D2 := drw_add D (.lst ((shV u ws g c.1).map (ve g)))
  have hvl := shV_len u ws g c.1
  have hvw : ∀ l ∈ shV u ws g c.1, Wv g l := shV_wv hw
  have hbar : bar u ws g c = (bad (shV u ws g c.1) c.2).head? := rfl
  rw [hbar]
  generalize shV u ws g c.1 = vs at *
  have c2 := drw_last D2
  generalize S ++ [.lst (vs.map (ve g))] = S2 at *
  have hcl : c.2.length = vs.length := by rw [hc.n, hvl]
  refine ⟨_, S2, .val (.ref (R.length + 2)), .val (.d (nI (bad vs c.2))), D2, ?_⟩
  show exSs (PP n) FU (sdrop 0 lb_law_108_2) (rW sc ws g fam h x7 x8 (.val (.d (.list (c.1.map Key.e)))) (.val (.d (.list (c.2.map (ve g))))) x11 x12 (.val (.d u.e)) (.own (acc.map oI)) x15 x16 x17 .un) S = _
  rw [ex_next 0 rfl (ρ' := rW sc ws g fam h x7 x8 (.val (.d (.list (c.1.map Key.e)))) (.val (.d (.list (c.2.map (ve g))))) x11 x12 (.val (.d u.e)) (.own (acc.map oI)) (.val (.ref (R.length + 2))) x16 x17 .un) (S' := S2) (by
    simp only [exS_asg, frzE_call, ev_call, evs_cons, evs_nil, ev_v, List.getElem?_cons_succ, List.getElem?_cons_zero, bind_ok, pp_fn, e2, of_ok]
    rfl)]
  have hcomp := comp_if (P := PP n) (tg := .nm 5) (it := .rng (.c (.int 0)) (.bi .len (.v 9))) (test := .cmp .ne (.ix (.v 15) (.v 5)) (.ix (.v 10) (.v 5))) (elt := .v 5) (ρ := rW sc ws g fam h x7 x8 (.val (.d (.list (c.1.map Key.e)))) (.val (.d (.list (c.2.map (ve g))))) x11 x12 (.val (.d u.e)) (.own (acc.map oI)) (.val (.ref (R.length + 2))) x16 x17 .un) (S := S2) (List.range vs.length) (fun (j : Nat) => PyData.int j) (fun k => !decide (getV vs k = getV c.2 k)) (fun (j : Nat) => PyData.int j) (by
      refine rng_of (x := .int 0) (y := .int (vs.length : Nat)) (S1 := S2) (S2 := S2) (by rw [ev_c]) ?_ (rng_to S2 vs.length (by have := hc.k; omega))
      simp only [ev_bi, argm_v, ev_v, List.getElem?_cons_succ, List.getElem?_cons_zero, data_ok, l_len, List.length_map, hvl, Option.map_some, lift_some]) (by rw [List.length_range]; have := hc.k; omega) (fun j hj => ⟨(rW sc ws g fam h x7 x8 (.val (.d (.list (c.1.map Key.e)))) (.val (.d (.list (c.2.map (ve g))))) x11 x12 (.val (.d u.e)) (.own (acc.map oI)) (.val (.ref (R.length + 2))) x16 x17 .un).set 5 (.val (.d (.int (j : Nat)))), rfl, by
      have hj := List.mem_range.mp hj
      have a1 := at_ve (g := g) hj
      have a2 : ixD (.list (c.2.map (ve g))) (.int (j : Nat)) = some (ve g (getV c.2 j)) := at_ve (g := g) (vs := c.2) (by omega)
      refine cmp_of (x := ve g (getV vs j)) (y := ve g (getV c.2 j)) (S1 := S2) ?_ ?_ (ve_ne (hvw _ (getV_mem hj)) (hc.v _ (getV_mem (by omega))))
      · simp only [argm_ix, ev_ix, argm_v, ev_v, List.set_cons_succ, List.set_cons_zero, List.getElem?_cons_succ, List.getElem?_cons_zero, bind_ok, ixW_ref, c2, a1, Option.map_some, lift_some]
      · simp only [argm_ix, ev_ix, argm_v, ev_v, List.set_cons_succ, List.set_cons_zero, List.getElem?_cons_succ, List.getElem?_cons_zero, bind_ok, ixW_dd, a2, Option.map_some, lift_some], fun _ => by simp only [ev_v, List.set_cons_succ, List.set_cons_zero, List.getElem?_cons_succ, List.getElem?_cons_zero]⟩)
  rw [ex_next 1 rfl (ρ' := rW sc ws g fam h x7 x8 (.val (.d (.list (c.1.map Key.e)))) (.val (.d (.list (c.2.map (ve g))))) x11 x12 (.val (.d u.e)) (.own (acc.map oI)) (.val (.ref (R.length + 2))) (.val (.d (nI (bad vs c.2)))) x17 .un) (S' := S2) (by
    rw [exS_asg, frzE_comp, hcomp, of_ok]
    rfl)]
  have hv : ev (PP n) (.ife (.cmp .ne (.v 16) (.lst .nil)) (.ix (.v 16) (.c (.int 0))) (.c (.none))) (rW sc ws g fam h x7 x8 (.val (.d (.list (c.1.map Key.e)))) (.val (.d (.list (c.2.map (ve g))))) x11 x12 (.val (.d u.e)) (.own (acc.map oI)) (.val (.ref (R.length + 2))) (.val (.d (nI (bad vs c.2)))) x17 .un) S2 = .ok (.d (oI (bad vs c.2).head?)) S2 := by
    rw [ev_ife, cmp_of (x := nI (bad vs c.2)) (y := .list []) (S1 := S2) (S2 := S2) (by simp only [argm_v, ev_v, List.getElem?_cons_succ, List.getElem?_cons_zero]) (by rfl) (nI_ne _), truth_ok]
    cases bad vs c.2 with
    | nil => rfl
    | cons k r =>
      rw [decide_eq_false (by simp)]
      simp only [Bool.not_false, if_true, ev_ix, argm_v, ev_v, ev_c, List.getElem?_cons_succ, List.getElem?_cons_zero, bind_ok, ixW_dd]
      unfold nI
      rw [List.map_cons, ix0]
      rfl
  rw [ex_next 2 rfl (ρ' := rW sc ws g fam h x7 x8 (.val (.d (.list (c.1.map Key.e)))) (.val (.d (.list (c.2.map (ve g))))) x11 x12 (.val (.d u.e)) (.own ((acc ++ [(bad vs c.2).head?]).map oI)) (.val (.ref (R.length + 2))) (.val (.d (nI (bad vs c.2)))) x17 .un) (S' := S2) (by
    have hl3 : Nat.blt (acc.map oI).length lim = true := by rw [List.length_map]; exact Nat.ble_eq_true_of_le (show acc.length + 1 ≤ 1000000 by omega)
    rw [exS_app, frzE_ife]
    simp only [List.getElem?_cons_succ, List.getElem?_cons_zero, hv, of_ok, hl3, if_true]
    rw [List.map_append]
    rfl)]
  exact ex_end 3 rfl
theorem loop2 (hn : 6 ≤ n) (hw : Words ws) : ∀ (l : List Rec) (acc : List (Option Nat)) (R S : Sto), (∀ c ∈ l, Rk g c) → acc.length + l.length ≤ 100 → DrwR R S → ∀ (x7 x8 x9 x10 x11 x12 x15 x16 x17 : Sl), ∃ (R' S' : Sto) (y9 y10 y15 y16 : Sl), DrwR R' S' ∧
    forL (loopB (PP n) FU (.tp (.cons (.nm 9) (.cons (.nm 10) .nil))) lb_law_108_2) (l.map (re g)) (rW sc ws g fam h x7 x8 x9 x10 x11 x12 (.val (.d u.e)) (.own (acc.map oI)) x15 x16 x17 .un) S = .next (rW sc ws g fam h x7 x8 y9 y10 x11 x12 (.val (.d u.e)) (.own ((acc ++ l.map (bar u ws g)).map oI)) y15 y16 x17 .un) S'
  | [], acc, R, S, _, _, D, x7, x8, x9, x10, x11, x12, x15, x16, x17 => ⟨R, S, x9, x10, x15, x16, D, by rw [List.map_nil, List.map_nil, List.append_nil]; rfl⟩
  | c :: l, acc, R, S, hc, ha, D, x7, x8, x9, x10, x11, x12, x15, x16, x17 => by
    rw [List.length_cons] at ha
    obtain ⟨R1, S1, y15, y16, D1, e1⟩ := turn2 (n := n) (sc := sc) (fam := fam) (h := h) (u := u) hn D hw (hc c List.mem_cons_self) acc (by omega) x7 x8 x9 x10 x11 x12 x15 x16 x17
    obtain ⟨R2, S2, z9, z10, z15, z16, D2, e2⟩ := loop2 hn hw l (acc ++ [bar u ws g c]) R1 S1 (fun d hd => hc d (List.mem_cons_of_mem _ hd)) (by rw [List.length_append, List.length_singleton]; omega) D1 x7 x8 (.val (.d (.list (c.1.map Key.e)))) (.val (.d (.list (c.2.map (ve g))))) x11 x12 y15 y16 x17
    refine ⟨R2, S2, z9, z10, z15, z16, D2, ?_⟩
    rw [List.map_cons, forL, e1, then_next, e2, List.append_assoc]
    rfl
theorem ix_re {k : Nat} (hk : k < cs.length) : ∃ c, c ∈ cs ∧ cs[k]? = some c ∧ ixD (.list (cs.map (re g))) (.int (k : Nat)) = some (re g c) := by
  refine ⟨cs[k], List.getElem_mem hk, List.getElem?_eq_getElem hk, ?_⟩
  show atI _ _ = _
  rw [at_nat, List.getElem?_map, List.getElem?_eq_getElem hk]
  rfl
/-- one way -/
theorem turn3 (hn : 9 ≤ n) (D : DrwR R S) (hw : Words ws) (hc : ∀ c ∈ cs, Rk g c) (h1 : 1 ≤ cs.length) (hcs : cs.length ≤ 12) (acc : List PyData) (ha : acc.length ≤ 100) (u : Way) (x7 : Sl) (h7 : x7 = .own (cs.map (re g)) ∨ x7 = .val (.d (.list (cs.map (re g))))) (x8 x9 x10 x11 x13 x14 x15 x16 x17 : Sl) : ∃ (R' S' : Sto) (y9 y10 y11 y13 y14 y15 y16 y17 : Sl), DrwR R' S' ∧
    loopB (PP n) FU (.nm 13) lb_law_108_3 u.e (rW sc ws g fam h x7 x8 x9 x10 x11 (.own acc) x13 x14 x15 x16 x17 .un) S = .next (rW sc ws g fam h (.val (.d (.list (cs.map (re g))))) x8 y9 y10 y11 (.own (acc ++ [fbW ws g cs u])) y13 y14 y15 y16 y17 .un) S' := by
  obtain ⟨R1, S1, y9, y10, y15, y16, D1, e1⟩ := loop2 (n := n) (sc := sc) (fam := fam) (h := h) (u := u) (by omega) hw cs [] R S hc (by simp; omega) D (.val (.d (.list (cs.map (re g))))) x8 x9 x10 x11 (.own acc) x15 x16 x17
  rw [List.nil_append] at e1
  obtain ⟨k, S2, D2, hk, e2⟩ := d_draw (n := n) (by omega) D1 cs.length (by omega) (by omega)
  obtain ⟨c, hcm, hck, hix⟩ := ix_re (g := g) (cs := cs) hk
  have e3 := e_first_bar (n := n) (S := S2) (w := u) (by omega) hw (hc c hcm)
  have e4 := e_made (n := n) (S := S2) (w := u) (by omega) hw (hc c hcm)
  have e5 := e_law_true (n := n) (S := S2) (by omega) (bar u ws g c).isNone
  have hpk : getO (cs.map (bar u ws g)) k = bar u ws g c := by
    unfold getO
    rw [List.getElem?_map, hck]
    rfl
  have hfb : fbW ws g cs u = fb (cs.map (bar u ws g)) := rfl
  rw [hfb]
  have hpl : (cs.map (bar u ws g)).length = cs.length := List.length_map _
  generalize cs.map (bar u ws g) = pl at *
  generalize bar u ws g c = bo at *
  subst hpk
  have hixp := ix_pl (pl := pl) (k := k) (by omega)
  have hrl : (cs.map (re g)).length = cs.length := List.length_map _
  refine ⟨_, S2, y9, y10, .val (.d (.int (k : Nat))), .val (.d u.e), .own (pl.map oI), y15, y16, .val (.d (nI (kbs pl))), D2, ?_⟩
  simp only [loopB, asgT]
  show exSs (PP n) FU (sdrop 0 lb_law_108_3) (rW sc ws g fam h x7 x8 x9 x10 x11 (.own acc) (.val (.d u.e)) x14 x15 x16 x17 .un) S = _
  rw [ex_next 0 rfl (ρ' := rW sc ws g fam h x7 x8 x9 x10 x11 (.own acc) (.val (.d u.e)) (.own []) x15 x16 x17 .un) (S' := S) (by rfl)]
  rw [ex_next 1 rfl (ρ' := rW sc ws g fam h (.val (.d (.list (cs.map (re g))))) x8 y9 y10 x11 (.own acc) (.val (.d u.e)) (.own (pl.map oI)) y15 y16 x17 .un) (S' := S1) (by
    rw [exS_for, frzI_e, frzE_v]
    have hf : frzAt (rW sc ws g fam h x7 x8 x9 x10 x11 (.own acc) (.val (.d u.e)) (.own []) x15 x16 x17 .un) 7 = rW sc ws g fam h (.val (.d (.list (cs.map (re g))))) x8 x9 x10 x11 (.own acc) (.val (.d u.e)) (.own []) x15 x16 x17 .un := by
      rcases h7 with rfl | rfl <;> rfl
    rw [hf]
    simp only [evi_e, argm_v, ev_v, List.getElem?_cons_succ, List.getElem?_cons_zero, bind_ok, l_items, lift_some, of_ok]
    exact e1)]
  have hcomp := comp_if (P := PP n) (tg := .nm 5) (it := .rng (.c (.int 0)) (.bi .len (.v 7))) (test := .cmp .isnot (.ix (.v 14) (.v 5)) (.c (.none))) (elt := .v 5) (ρ := rW sc ws g fam h (.val (.d (.list (cs.map (re g))))) x8 y9 y10 x11 (.own acc) (.val (.d u.e)) (.own (pl.map oI)) y15 y16 x17 .un) (S := S1) (List.range pl.length) (fun (j : Nat) => PyData.int j) (fun k => (getO pl k).isSome) (fun (j : Nat) => PyData.int j) (by
      refine rng_of (x := .int 0) (y := .int (pl.length : Nat)) (S1 := S1) (S2 := S1) (by rw [ev_c]) ?_ (rng_to S1 pl.length (by omega))
      simp only [ev_bi, argm_v, ev_v, List.getElem?_cons_succ, List.getElem?_cons_zero, data_ok, l_len, hrl, hpl, Option.map_some, lift_some]) (by rw [List.length_range]; omega) (fun j hj => ⟨(rW sc ws g fam h (.val (.d (.list (cs.map (re g))))) x8 y9 y10 x11 (.own acc) (.val (.d u.e)) (.own (pl.map oI)) y15 y16 x17 .un).set 5 (.val (.d (.int (j : Nat)))), rfl, by
      have a1 : ixD (.list (pl.map oI)) (.int (j : Nat)) = some (oI (getO pl j)) := ix_pl (List.mem_range.mp hj)
      refine cmp_of (x := oI (getO pl j)) (y := .none) (S1 := S1) ?_ (by rw [argm_c, ev_c]) (isnot_oI _)
      simp only [argm_ix, ev_ix, argm_v, ev_v, List.set_cons_succ, List.set_cons_zero, List.getElem?_cons_succ, List.getElem?_cons_zero, bind_ok, ixW_dd, a1, Option.map_some, lift_some], fun _ => by simp only [ev_v, List.set_cons_succ, List.set_cons_zero, List.getElem?_cons_succ, List.getElem?_cons_zero]⟩)
  rw [ex_next 2 rfl (ρ' := rW sc ws g fam h (.val (.d (.list (cs.map (re g))))) x8 y9 y10 x11 (.own acc) (.val (.d u.e)) (.own (pl.map oI)) y15 y16 (.val (.d (nI (kbs pl)))) .un) (S' := S1) (by
    rw [exS_asg, frzE_comp, hcomp, of_ok]
    rfl)]
  have hv : ev (PP n) (.ife (.cmp .ne (.v 17) (.lst .nil)) (.tup (.cons (.ix (.v 17) (.c (.int 0))) (.cons (.ix (.v 14) (.ix (.v 17) (.c (.int 0)))) .nil))) (.c (.none))) (rW sc ws g fam h (.val (.d (.list (cs.map (re g))))) x8 y9 y10 x11 (.own acc) (.val (.d u.e)) (.own (pl.map oI)) y15 y16 (.val (.d (nI (kbs pl)))) .un) S1 = .ok (.d (fb pl)) S1 := by
    rw [ev_ife, cmp_of (x := nI (kbs pl)) (y := .list []) (S1 := S1) (S2 := S1) (by simp only [argm_v, ev_v, List.getElem?_cons_succ, List.getElem?_cons_zero]) (by rfl) (nI_ne _), truth_ok]
    unfold fb
    cases hkb : kbs pl with
    | nil => rfl
    | cons j r =>
      have hj : j < pl.length := by
        have : j ∈ kbs pl := by rw [hkb]; exact List.mem_cons_self
        exact List.mem_range.mp (List.mem_filter.mp this).1
      have a1 : ixD (.list (pl.map oI)) (.int (j : Nat)) = some (oI (getO pl j)) := ix_pl hj
      have a0 : ixD (nI (j :: r)) (.int 0) = some (.int (j : Nat)) := by unfold nI; rw [List.map_cons, ix0]
      rw [decide_eq_false (by simp)]
      simp only [Bool.not_false, if_true, ev_tup, evs_cons, evs_nil, ev_ix, argm_v, ev_v, ev_c, List.getElem?_cons_succ, List.getElem?_cons_zero, bind_ok, ixW_dd, a0, a1, Option.map_some, lift_some, mkTup_eq, List.length_cons, List.length_nil, show Nat.ble (0 + 1 + 1) lim = true from rfl, allD_cons, allD_nil]
  rw [ex_next 3 rfl (ρ' := rW sc ws g fam h (.val (.d (.list (cs.map (re g))))) x8 y9 y10 x11 (.own (acc ++ [fb pl])) (.val (.d u.e)) (.own (pl.map oI)) y15 y16 (.val (.d (nI (kbs pl)))) .un) (S' := S1) (by
    have hl3 : Nat.blt acc.length lim = true := Nat.ble_eq_true_of_le (show acc.length + 1 ≤ 1000000 by omega)
    rw [exS_app, frzE_ife]
    simp only [List.getElem?_cons_succ, List.getElem?_cons_zero, hv, of_ok, hl3, if_true]
    rfl)]
  rw [ex_next 4 rfl (ρ' := rW sc ws g fam h (.val (.d (.list (cs.map (re g))))) x8 y9 y10 (.val (.d (.int (k : Nat)))) (.own (acc ++ [fb pl])) (.val (.d u.e)) (.own (pl.map oI)) y15 y16 (.val (.d (nI (kbs pl)))) .un) (S' := S2) (by
    simp only [exS_asg, frzE_call, ev_call, evs_cons, evs_nil, ev_v, ev_bi, argm_v, List.getElem?_cons_succ, List.getElem?_cons_zero, bind_ok, data_ok, l_len, hrl, Option.map_some, lift_some, pp_fn, e2, of_ok]
    rfl)]
  have hixp' : ixD (.list (pl.map oI)) (.int (k : Nat)) = some (oI (getO pl k)) := hixp
  have q5 : ev (PP n) (.cmp .ne (.call 97 (.cons (.v 13) (.cons (.v 2) (.cons (.v 3) (.cons (.ix (.v 7) (.v 11)) .nil))))) (.ix (.v 14) (.v 11))) (rW sc ws g fam h (.val (.d (.list (cs.map (re g))))) x8 y9 y10 (.val (.d (.int (k : Nat)))) (.own (acc ++ [fb pl])) (.val (.d u.e)) (.own (pl.map oI)) y15 y16 (.val (.d (nI (kbs pl)))) .un) S2 = .ok (.d (.bool false)) S2 := by
    refine cmp_of (x := oI (getO pl k)) (y := oI (getO pl k)) (S1 := S2) ?_ ?_ (d_other (shp_oI 0 _) (by omega))
    · simp only [argm_call, ev_call, evs_cons, evs_nil, ev_ix, argm_v, ev_v, List.getElem?_cons_succ, List.getElem?_cons_zero, bind_ok, ixW_dd, hix, Option.map_some, lift_some, pp_fn, e3]
    · simp only [argm_ix, ev_ix, argm_v, ev_v, List.getElem?_cons_succ, List.getElem?_cons_zero, bind_ok, ixW_dd, hixp', Option.map_some, lift_some]
  rw [ex_skip 5 rfl q5]
  have q6 : ev (PP n) (.not (.call 104 (.cons (.call 98 (.cons (.v 13) (.cons (.v 2) (.cons (.v 3) (.cons (.ix (.v 7) (.v 11)) .nil))))) (.cons (.cmp .is_ (.ix (.v 14) (.v 11)) (.c (.none))) .nil)))) (rW sc ws g fam h (.val (.d (.list (cs.map (re g))))) x8 y9 y10 (.val (.d (.int (k : Nat)))) (.own (acc ++ [fb pl])) (.val (.d u.e)) (.own (pl.map oI)) y15 y16 (.val (.d (nI (kbs pl)))) .un) S2 = .ok (.d (.bool false)) S2 := by
    refine not_b (k := true) ?_
    have q7 : ev (PP n) (.cmp .is_ (.ix (.v 14) (.v 11)) (.c (.none))) (rW sc ws g fam h (.val (.d (.list (cs.map (re g))))) x8 y9 y10 (.val (.d (.int (k : Nat)))) (.own (acc ++ [fb pl])) (.val (.d u.e)) (.own (pl.map oI)) y15 y16 (.val (.d (nI (kbs pl)))) .un) S2 = .ok (.d (.bool (getO pl k).isNone)) S2 := by
      refine cmp_of (x := oI (getO pl k)) (y := .none) (S1 := S2) ?_ (by rw [argm_c, ev_c]) (is_oI _)
      simp only [argm_ix, ev_ix, argm_v, ev_v, List.getElem?_cons_succ, List.getElem?_cons_zero, bind_ok, ixW_dd, hixp', Option.map_some, lift_some]
    rw [ev_call, evs_cons, ev_call]
    simp only [evs_cons, evs_nil, ev_ix, argm_v, ev_v, List.getElem?_cons_succ, List.getElem?_cons_zero, bind_ok, ixW_dd, hix, Option.map_some, lift_some, pp_fn, e4, q7, e5]
  rw [ex_skip 6 rfl q6]
  exact ex_end 7 rfl
theorem loop3 (hn : 9 ≤ n) (hw : Words ws) (hc : ∀ c ∈ cs, Rk g c) (h1 : 1 ≤ cs.length) (hcs : cs.length ≤ 12) : ∀ (l : List Way) (acc : List PyData) (R S : Sto), acc.length + l.length ≤ 100 → DrwR R S → ∀ (x7 : Sl), (x7 = .own (cs.map (re g)) ∨ x7 = .val (.d (.list (cs.map (re g))))) → ∀ (x8 x9 x10 x11 x13 x14 x15 x16 x17 : Sl), ∃ (R' S' : Sto) (y7 y9 y10 y11 y13 y14 y15 y16 y17 : Sl), DrwR R' S' ∧ (y7 = x7 ∨ y7 = .val (.d (.list (cs.map (re g))))) ∧ (l ≠ [] → y7 = .val (.d (.list (cs.map (re g))))) ∧
    forL (loopB (PP n) FU (.nm 13) lb_law_108_3) (l.map Way.e) (rW sc ws g fam h x7 x8 x9 x10 x11 (.own acc) x13 x14 x15 x16 x17 .un) S = .next (rW sc ws g fam h y7 x8 y9 y10 y11 (.own (acc ++ l.map (fbW ws g cs))) y13 y14 y15 y16 y17 .un) S'
  | [], acc, R, S, _, D, x7, h7, x8, x9, x10, x11, x13, x14, x15, x16, x17 => ⟨R, S, x7, x9, x10, x11, x13, x14, x15, x16, x17, D, .inl rfl, fun e => absurd rfl e, by rw [List.map_nil, List.map_nil, List.append_nil]; rfl⟩
  | u :: l, acc, R, S, ha, D, x7, h7, x8, x9, x10, x11, x13, x14, x15, x16, x17 => by
    rw [List.length_cons] at ha
    obtain ⟨R1, S1, y9, y10, y11, y13, y14, y15, y16, y17, D1, e1⟩ := turn3 (n := n) (sc := sc) (fam := fam) (h := h) hn D hw hc h1 hcs acc (by omega) u x7 h7 x8 x9 x10 x11 x13 x14 x15 x16 x17
    obtain ⟨R2, S2, z7, z9, z10, z11, z13, z14, z15, z16, z17, D2, q1, q2, e2⟩ := loop3 hn hw hc h1 hcs l (acc ++ [fbW ws g cs u]) R1 S1 (by rw [List.length_append, List.length_singleton]; omega) D1 (.val (.d (.list (cs.map (re g))))) (.inr rfl) x8 y9 y10 y11 y13 y14 y15 y16 y17
    have hz7 : z7 = .val (.d (.list (cs.map (re g)))) := by rcases q1 with q | q <;> exact q
    refine ⟨R2, S2, z7, z9, z10, z11, z13, z14, z15, z16, z17, D2, .inr hz7, fun _ => hz7, ?_⟩
    rw [List.map_cons, forL, e1, then_next, e2, List.append_assoc]
    rfl
end
/-- ways, one after another -/
theorem lways {n : Nat} (hn : 3 ≤ n) (ρ : Rho) (h1 : ρ[1]? = some (.val (.ref 1))) (h5 : 5 < ρ.length) : ∀ (ts : List PyData) (S : Sto), Drw S → ∃ (fam : List Way) (S' : Sto), Drw S' ∧ fam.length = ts.length ∧ compL (oneR (PP n) (.nm 5) (.c (.bool true)) (.call 35 (.cons (.v 1) .nil)) ρ) ts S = .ok (fam.map Way.e) S'
  | [], S, D => ⟨[], S, D, rfl, rfl⟩
  | t :: ts, S, D => by
    obtain ⟨w, S1, D1, e1⟩ := d_way (n := n) hn D
    obtain ⟨fam, S2, D2, hl, e2⟩ := lways hn ρ h1 h5 ts S1 D1
    have a1 : ((ρ.set 5 Sl.un).set 5 (.val (.d t)))[1]? = some (.val (.ref 1)) := by rw [List.getElem?_set_ne (by omega), List.getElem?_set_ne (by omega)]; exact h1
    have ha : asgT (.nm 5) t (wipeR (tgOwn (.nm 5)) ρ) = some ((ρ.set 5 Sl.un).set 5 (.val (.d t))) := by
      rw [own_nm, wipeR_cons, wipeR_nil, asgT_nm, if_pos]
      rw [List.length_set]; exact h5
    have one : oneR (PP n) (.nm 5) (.c (.bool true)) (.call 35 (.cons (.v 1) .nil)) ρ t S = .ok (some w.e) S1 := by
      unfold oneR
      rw [ha]
      dsimp only
      simp only [ev_c, bind_ok, ev_call, evs_cons, evs_nil, ev_v, a1, pp_fn, e1]
      rfl
    refine ⟨w :: fam, S2, D2, by rw [List.length_cons, hl, List.length_cons], ?_⟩
    rw [compL, one, bind_ok, e2, bind_ok]
    rfl
theorem par2 {P : Pg} {fu i j : Nat} {b1 b2 : Bool} {a b : E} {ρ : Rho} {S S1 S2 : Sto} {u v : W} {s1 s2 : Sl} (h1 : ev P a ρ S = .ok u S1) (o1 : ownS b1 u = some s1) (h2 : ev P b ρ S1 = .ok v S2) (o2 : ownS b2 v = some s2) (hi : i < ρ.length) (hj : j < ρ.length) : exS P fu (.par [(i, b1), (j, b2)] (.cons a (.cons b .nil))) ρ S = .next ((ρ.set i s1).set j s2) S2 := by
  simp only [exS_par, List.map_cons, List.map_nil, evp_cons, evp_nil, h1, bind_ok, o1, o2, lift_some, h2, of_ok, setAll_cons, setAll_nil, hi, if_true, List.length_set, hj]
theorem law_run (ns : List Int) : ∃ S', exSs (PP 19) FU ir_law_108 (startR fn_law_108 [.d (.list (ns.map PyData.int))]) [] = .ret (.d (.bool true)) S' := by
  suffices h : ∀ n, 10 ≤ n → ∃ S', exSs (PP n) FU ir_law_108 (startR fn_law_108 [.d (.list (ns.map PyData.int))]) [] = .ret (.d (.bool true)) S' from h 19 (by omega)
  intro n hn
  obtain ⟨nums, hne, e0⟩ := e_start (n := n) (by omega) ns
  have D0 : Drw (Sd nums 0) := ⟨nums, 0, hne, by omega, rfl⟩
  obtain ⟨ws, S1, D1, hw, _, e1⟩ := d_list (n := n) (by omega) D0 3 (by omega)
  have e1 : FF n 37 [.ref 1, .d (.int 3)] (Sd nums 0) = .ok (.d (.list (ws.map tx))) S1 := e1
  obtain ⟨v, S2, D2, hv, e2⟩ := d_draw (n := n) (by omega) D1 2 (by omega) (by omega)
  obtain ⟨g, hg⟩ : ∃ g : Bool, (v : Int) = qi g := by
    match v, hv with
    | 0, _ => exact ⟨false, rfl⟩
    | 1, _ => exact ⟨true, rfl⟩
  rw [hg] at e2
  have e2 : FF n 32 [.ref 1, .d (.int 2)] S1 = .ok (.d (.int (qi g))) S2 := e2
  obtain ⟨k8, S3, D3, h8, e3⟩ := d_draw (n := n) (by omega) D2 8 (by omega) (by omega)
  have e3 : FF n 32 [.ref 1, .d (.int 8)] S2 = .ok (.d (.int (k8 : Nat))) S3 := e3
  generalize hsc : PyData.list (ns.map PyData.int) = sc at *
  obtain ⟨fam, S4, D4, hfl, e4⟩ := lways (n := n) (by omega) [.val (.d sc), .val (.ref 1), .val (.d (.list (ws.map tx))), .val (.d (.int (qi g))), .un, .un, .un, .un, .un, .un, .un, .un, .un, .un, .un, .un, .un, .un, .un] rfl (by simp) ((List.range (k8 + 1)).map fun (j : Nat) => PyData.int j) S3 D3
  rw [List.length_map, List.length_range] at hfl
  have hf : Fam fam := ⟨by omega, by omega⟩
  obtain ⟨h, S5, D5, hh, e5⟩ := d_draw (n := n) (by omega) D4 fam.length (by omega) (by omega)
  obtain ⟨k6, S6, D6, h6, e6⟩ := d_draw (n := n) (by omega) D5 6 (by omega) (by omega)
  have e6 : FF n 32 [.ref 1, .d (.int 6)] S5 = .ok (.d (.int (k6 : Nat))) S6 := e6
  obtain ⟨cs, R7, S7, y8, y9, y10, y11, hc, hcl, D7, e7⟩ := loop1 (n := n) (sc := sc) (ws := ws) (g := g) (fam := fam) (h := h) (by omega) hw hh ((List.range (k6 + 1)).map fun (j : Nat) => PyData.int j) [] [] S6 (fun t ht => by
    obtain ⟨j, _, rfl⟩ := List.mem_map.mp ht
    exact ⟨_, rfl⟩) D6 (fun c hc => by cases hc) (by rw [List.length_map, List.length_range, List.length_nil]; omega) .un .un .un .un
  rw [List.length_map, List.length_range, List.length_nil] at hcl
  have hc1 : 1 ≤ cs.length := by omega
  have hc12 : cs.length ≤ 12 := by omega
  obtain ⟨R8, S8, z7, z9, z10, z11, z13, z14, z15, z16, z17, D8, _, hz7, e8⟩ := loop3 (n := n) (sc := sc) (ws := ws) (g := g) (fam := fam) (h := h) (cs := cs) (by omega) hw hc hc1 hc12 fam [] R7 S7 (by rw [List.length_nil]; omega) D7 (.own (cs.map (re g))) (.inl rfl) y8 y9 y10 y11 .un .un .un .un .un
  have hz7 := hz7 (fun e => by rw [e] at hh; cases hh)
  subst hz7
  rw [List.nil_append] at e8
  have b1 := e_bars (n := n) (S := S8) (by omega) hw hf hc1 hc12 hc
  have b2 := e_remains (n := n) (S := S8) (by omega) hw hf hc1 hc12 hc
  obtain ⟨S', b3⟩ := e_law_clean (n := n) (S := S8) (g := g) hn D8 hw hf hh
  refine ⟨S', ?_⟩
  show exSs (PP n) FU (sdrop 0 ir_law_108) [.val (.d sc), .un, .un, .un, .un, .un, .un, .un, .un, .un, .un, .un, .un, .un, .un, .un, .un, .un, .un] [] = _
  rw [ex_next 0 rfl (ρ' := [.val (.d sc), .val (.ref 1), .un, .un, .un, .un, .un, .un, .un, .un, .un, .un, .un, .un, .un, .un, .un, .un, .un]) (S' := Sd nums 0) (by
    simp only [exS_asg, frzE_call, ev_call, evs_cons, evs_nil, ev_v, List.getElem?_cons_zero, bind_ok, pp_fn, e0, of_ok]
    rfl)]
  rw [ex_next 1 rfl (ρ' := [.val (.d sc), .val (.ref 1), .val (.d (.list (ws.map tx))), .val (.d (.int (qi g))), .un, .un, .un, .un, .un, .un, .un, .un, .un, .un, .un, .un, .un, .un, .un]) (S' := S2) (by
    refine par2 (S1 := S1) (u := .d (.list (ws.map tx))) (v := .d (.int (qi g))) ?_ rfl ?_ rfl (by simp) (by simp)
    · simp only [ev_call, evs_cons, evs_nil, ev_v, ev_c, List.getElem?_cons_succ, List.getElem?_cons_zero, bind_ok, pp_fn, e1]
    · simp only [ev_call, evs_cons, evs_nil, ev_v, ev_c, List.getElem?_cons_succ, List.getElem?_cons_zero, bind_ok, pp_fn, e2])]
  rw [ex_next 2 rfl (ρ' := [.val (.d sc), .val (.ref 1), .val (.d (.list (ws.map tx))), .val (.d (.int (qi g))), .val (.d (.list (fam.map Way.e))), .un, .un, .un, .un, .un, .un, .un, .un, .un, .un, .un, .un, .un, .un]) (S' := S4) (by
    rw [exS_asg, frzE_comp, comp_st (ds := (List.range (k8 + 1)).map fun (j : Nat) => PyData.int j) (S1 := S3) (by
      refine rng_of (x := .int 0) (y := .int ((k8 + 1 : Nat) : Int)) (S1 := S2) (S2 := S3) (by rw [ev_c]) ?_ (rng_to S3 (k8 + 1) (by omega))
      have hk : (1 : Int) + (k8 : Int) = ((k8 + 1 : Nat) : Int) := by omega
      simp only [ev_bin, argm_c, ev_c, argm_call, ev_call, evs_cons, evs_nil, ev_v, List.getElem?_cons_succ, List.getElem?_cons_zero, bind_ok, pp_fn, e3, vw_d, Option.bind_some, i_add, Option.map_some, lift_some, hk]) (by rw [List.length_map, List.length_range]; omega) e4, of_ok]
    rfl)]
  rw [ex_next 3 rfl (ρ' := rW sc ws g fam h (.own []) .un .un .un .un .un .un .un .un .un .un .un) (S' := S5) (by
    refine par2 (S1 := S5) (u := .d (.int (h : Nat))) (v := .d (.list [])) ?_ rfl ?_ rfl (by simp) (by simp)
    · simp only [ev_call, evs_cons, evs_nil, ev_v, ev_bi, argm_v, List.getElem?_cons_succ, List.getElem?_cons_zero, bind_ok, data_ok, l_len, List.length_map, Option.map_some, lift_some, pp_fn, e5]
    · rfl)]
  rw [ex_next 4 rfl (ρ' := rW sc ws g fam h (.own (cs.map (re g))) y8 y9 y10 y11 .un .un .un .un .un .un .un) (S' := S7) (by
    rw [exS_for, frzI_rng, rng_of (R := .ok ((List.range (k6 + 1)).map fun (j : Nat) => PyData.int j) S6) (x := .int 0) (y := .int ((k6 + 1 : Nat) : Int)) (S1 := S5) (S2 := S6) (by rw [ev_c]) (by
      have hk : (1 : Int) + (k6 : Int) = ((k6 + 1 : Nat) : Int) := by omega
      simp only [ev_bin, argm_c, ev_c, argm_call, ev_call, evs_cons, evs_nil, ev_v, List.getElem?_cons_succ, List.getElem?_cons_zero, bind_ok, pp_fn, e6, vw_d, Option.bind_some, i_add, Option.map_some, lift_some, hk]) (rng_to S6 (k6 + 1) (by omega)), of_ok]
    exact e7)]
  rw [ex_next 5 rfl (ρ' := rW sc ws g fam h (.own (cs.map (re g))) y8 y9 y10 y11 (.own []) .un .un .un .un .un .un) (S' := S7) (by rfl)]
  rw [ex_next 6 rfl (ρ' := rW sc ws g fam h (.val (.d (.list (cs.map (re g))))) y8 z9 z10 z11 (.own (fam.map (fbW ws g cs))) z13 z14 z15 z16 z17 .un) (S' := S8) (by
    rw [exS_for, frzI_e, frzE_v]
    rw [show frzAt (rW sc ws g fam h (.own (cs.map (re g))) y8 y9 y10 y11 (.own []) .un .un .un .un .un .un) 4 = rW sc ws g fam h (.own (cs.map (re g))) y8 y9 y10 y11 (.own []) .un .un .un .un .un .un from rfl]
    simp only [evi_e, argm_v, ev_v, List.getElem?_cons_succ, List.getElem?_cons_zero, bind_ok, l_items, lift_some, of_ok]
    exact e8)]
  have hcomp := comp_if (P := PP n) (tg := .nm 5) (it := .rng (.c (.int 0)) (.bi .len (.v 4))) (test := .cmp .is_ (.ix (.v 12) (.v 5)) (.c (.none))) (elt := .v 5) (ρ := rW sc ws g fam h (.val (.d (.list (cs.map (re g))))) y8 z9 z10 z11 (.own (fam.map (fbW ws g cs))) z13 z14 z15 z16 z17 .un) (S := S8) (List.range fam.length) (fun (j : Nat) => PyData.int j) (fun k => decide (kbs (cs.map (bar (getW fam k) ws g)) = [])) (fun (j : Nat) => PyData.int j) (by
      refine rng_of (x := .int 0) (y := .int (fam.length : Nat)) (S1 := S8) (S2 := S8) (by rw [ev_c]) ?_ (rng_to S8 fam.length (by omega))
      simp only [ev_bi, argm_v, ev_v, List.getElem?_cons_succ, List.getElem?_cons_zero, data_ok, l_len, List.length_map, Option.map_some, lift_some]) (by rw [List.length_range]; omega) (fun j hj => ⟨(rW sc ws g fam h (.val (.d (.list (cs.map (re g))))) y8 z9 z10 z11 (.own (fam.map (fbW ws g cs))) z13 z14 z15 z16 z17 .un).set 5 (.val (.d (.int (j : Nat)))), rfl, by
      have hj := List.mem_range.mp hj
      have a1 : ixD (.list (fam.map (fbW ws g cs))) (.int (j : Nat)) = some (fbW ws g cs (getW fam j)) := by
        show atI _ _ = _
        rw [at_nat, List.getElem?_map]
        unfold getW
        rw [List.getElem?_eq_getElem hj]
        rfl
      refine cmp_of (x := fbW ws g cs (getW fam j)) (y := .none) (S1 := S8) ?_ (by rw [argm_c, ev_c]) ?_
      · simp only [argm_ix, ev_ix, argm_v, ev_v, List.set_cons_succ, List.set_cons_zero, List.getElem?_cons_succ, List.getElem?_cons_zero, bind_ok, ixW_dd, a1, Option.map_some, lift_some]
      · show some (PyData.bool (isNon (fb _))) = _
        rw [fb_non], fun _ => by simp only [ev_v, List.set_cons_succ, List.set_cons_zero, List.getElem?_cons_succ, List.getElem?_cons_zero]⟩)
  rw [ex_next 7 rfl (ρ' := rW sc ws g fam h (.val (.d (.list (cs.map (re g))))) y8 z9 z10 z11 (.own (fam.map (fbW ws g cs))) z13 z14 z15 z16 z17 (.val (.d (nI (rem ws g cs fam))))) (S' := S8) (by
    rw [exS_asg, frzE_comp, hcomp, of_ok]
    rfl)]
  have q8 : ev (PP n) (.or (.cmp .ne (.call 99 (.cons (.v 4) (.cons (.v 2) (.cons (.v 3) (.cons (.v 7) .nil))))) (.v 12)) (.cmp .ne (.call 100 (.cons (.v 4) (.cons (.v 2) (.cons (.v 3) (.cons (.v 7) .nil))))) (.v 18))) (rW sc ws g fam h (.val (.d (.list (cs.map (re g))))) y8 z9 z10 z11 (.own (fam.map (fbW ws g cs))) z13 z14 z15 z16 z17 (.val (.d (nI (rem ws g cs fam))))) S8 = .ok (.d (.bool false)) S8 := by
    refine or_ff (S1 := S8) ?_ ?_
    · refine cmp_of (x := .list (fam.map (fbW ws g cs))) (y := .list (fam.map (fbW ws g cs))) (S1 := S8) ?_ ?_ (d_other (n := 2) (shp_map (fun w => shp_fb _) fam) (by omega))
      · simp only [argm_call, ev_call, evs_cons, evs_nil, ev_v, List.getElem?_cons_succ, List.getElem?_cons_zero, bind_ok, pp_fn, b1]
      · simp only [argm_v, ev_v, List.getElem?_cons_succ, List.getElem?_cons_zero]
    · refine cmp_of (x := nI (rem ws g cs fam)) (y := nI (rem ws g cs fam)) (S1 := S8) ?_ ?_ (d_other (shp_nI _) (by omega))
      · simp only [argm_call, ev_call, evs_cons, evs_nil, ev_v, List.getElem?_cons_succ, List.getElem?_cons_zero, bind_ok, pp_fn, b2]
      · simp only [argm_v, ev_v, List.getElem?_cons_succ, List.getElem?_cons_zero]
  rw [ex_skip 8 rfl q8]
  exact ex_ret 9 rfl (by simp only [exS_ret, frzE_call, ev_call, evs_cons, evs_nil, ev_v, List.getElem?_cons_succ, List.getElem?_cons_zero, bind_ok, pp_fn, b3, of_ok])
theorem law_true : ∀ ns : List Int, ns.length ≤ 63 → ∃ S', fnAt pr.gc pr.tb lawFu lawLv 108 [.d (.list (ns.map PyData.int))] [] = .ok (.d (.bool true)) S' := by
  intro ns _
  obtain ⟨S', h⟩ := law_run ns
  exact ⟨S', call_ret (f := fn_law_108) rfl h⟩
end FO

set_option Elab.async false
set_option linter.all false
set_option maxRecDepth 100000
set_option maxHeartbeats 0
namespace FO
open PySem PySem.Spec PyProof.Rows L2
theorem facts {P : Program} {w : World} {K : PySem.W.Frag} {h : Heap} {mg : Str → Option Value} {f : Addr} (X : K.In h) (G : h.Ns mainGlobals mg) (hf : mg ("law" : Str) = some (.ref f)) (c : pr.obs K = pr.val) :
    ∃ fd : FuncData, (∀ (s : Shared) (v : Value), BindsTo s fd ⟨[v], []⟩ [("script", v)]) ∧ ∀ base : Heap, K.In base → base.Ns mainGlobals mg → FnOk P w K mg base (fun _ _ _ _ _ _ => False) (2 * lawLv) f fd ["script"] (fun vs H Q _ => spF ⟨K, w⟩ (pr.cls K) (fnAt pr.gc pr.tb lawFu lawLv 108) vs H Q fun _ _ _ => False) := by
  have s := says_of X G (by decide +kernel) c
  obtain ⟨a, fd, F, m, _⟩ := s.defs 108 d_law_108 rfl
  have e := hf.symm.trans (m "law" rfl)
  cases e
  have b := FunD.bindsA (ps := ["script"]) F ok_law_108.bd
  exact ⟨fd, fun s v => b s [v] rfl, fun base _ _ => fn_only (fns_all (P := P) (w := w) (base := base) (fu := lawFu) s (fun i d h => oks (i, d) (mem_of_lookup h)) lawLv 108 d_law_108 rfl _ _ F).1⟩
end FO
open PySem PySem.W PySem.Calls PyProof.Rows
theorem PySem.Challenge.cw_fieldoffers_k03_whole_records_holds : PySem.Challenge.rw_fieldoffers_k03_whole_records.Holds := by
  w_on; o_law
  refine HandSHeadRun.head_any (r := OpenLaw.row PySem.Challenge.rw_fieldoffers_k03_whole_records) (q := view (OpenLaw.row PySem.Challenge.rw_fieldoffers_k03_whole_records).prog [79]) (H := FO.hk) (ob := FO.ob) (M := 4000) (loose := FO.loose) (d := HandSHeadRun.topDef (OpenLaw.row PySem.Challenge.rw_fieldoffers_k03_whole_records).prog 79) (kwd := []) FO.ob_eq
    (by kernel_rfl) (fun s => by kernel_rfl) FO.run (by kernel_rfl) (by kernel_rfl) (by kernel_rfl) (by rfl) (by first | assumption | decide +kernel) (by decide +kernel) ⟨rfl, rfl, rfl, rfl, rfl, by decide +kernel⟩ ?hw ?hc
  case hw => w_witness2
  case hc =>
    refine L2.walk_ofE (l := PySem.Challenge.rw_fieldoffers_k03_whole_records) (n := 63) (k := 2 * FO.lawLv) (x := "script") (CX := fun _ _ _ _ _ _ => False) rfl (by decide) (by kernel_rfl) ⟨rfl, by decide, by decide⟩ ?F (fun _ _ _ _ z => z)
    intro w mg fa h Y G hmg0
    obtain ⟨K, KX, c⟩ := Y
    have hmg : mg ("law" : PySem.Str) = some (.ref fa) := by
      have e : (HandSHeadRun.topDef (OpenLaw.row PySem.Challenge.rw_fieldoffers_k03_whole_records).prog 79).name = ("law" : PySem.Str) := by kernel_rfl
      rw [← e]
      exact hmg0
    obtain ⟨fd, hb, hF⟩ := FO.facts (P := (PySem.Challenge.rw_fieldoffers_k03_whole_records).prog) (w := w) KX G hmg c
    exact ⟨K, fd, (fun vs H Q _ => FO.spF ⟨K, w⟩ (FO.pr.cls K) (FO.fnAt FO.pr.gc FO.pr.tb FO.lawFu FO.lawLv 108) vs H Q fun _ _ _ => False), KX, hb, fun H a ns hl _ hS => FO.law_ok FO.law_true H a ns hl hS, hF⟩

